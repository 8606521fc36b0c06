import PyProof.Rows.All
import Wide.All
import OpenK.AllK
import Wide.FinOn
import PySem.Challenge.RW_levelhearths_k79_whole_changes_and_cross
import HandS.ForMost
import HandS.ForExc
import HandS.Wide
import HandS.IsInst
import HandS.CallSlots
import HandS.TryOnly
import HandS.Zip
import HandS.Flow
import HandS.Deep
import HandS.HeadHook2
import HandS.Conv
import HandS.Style
import HandS.TupAny
import HandS.TupMul
import HandS.SortInts
import KE.GoesMore
import KE.GoesEnum
import KE.KDictZip
import HandS.Head2
import HandS.HeadEnd
import HandS.HeadHook4
import PyProof.Rows.ReprOcc
set_option Elab.async false
set_option linter.all false
set_option maxRecDepth 100000
/-! Ev, part 1: the small language, its evaluator, and the check that a term of it is a given def's text. -/
namespace Ev
open PySem L2

/-- a datum: what an expression is worth -/
abbrev Dt := PyData
/-- how large a list may grow -/
def cap : Nat := 16777216

/-! ### operators -/
inductive Op where
  | add | sub | mul | fdiv | mod | shr | shl | band | neg
  | eq | ne | lt | le | gt | ge | isN | notN | isin | notin
  | idx | len | abs | toInt | isI (t : String) | isI2 (t u : String) | sum | all | any | minL | maxL | min2 | max2 | sorted | list | tuple | repr | index | lrg1 | lrg2 | rev | tzip
  deriving DecidableEq, Repr

def ints? : List Dt → Option (List Int)
  | [] => some []
  | .int i :: r => (ints? r).map (i :: ·)
  | _ :: _ => none
def bools? : List Dt → Option (List Bool)
  | [] => some []
  | .bool i :: r => (bools? r).map (i :: ·)
  | _ :: _ => none
def listMax : Int → List Int → Int
  | m, [] => m
  | m, x :: r => listMax (if x > m then x else m) r
def listMin : Int → List Int → Int
  | m, [] => m
  | m, x :: r => listMin (if x < m then x else m) r
def insI (x : Int) : List Int → List Int
  | [] => [x]
  | y :: r => if x ≤ y then x :: y :: r else y :: insI x r
def sortI : List Int → List Int
  | [] => []
  | x :: r => insI x (sortI r)
def mulOk (i j : Int) : Bool := decide (i.natAbs.log2 + j.natAbs.log2 < 1000000)
def divOk (j : Int) : Bool := decide (0 < j ∧ j.natAbs.log2 < 9000)
def ixOf (n : Nat) (i : Int) : Option Nat := if 0 ≤ i then (if i < n then some i.toNat else none) else if -(n : Int) ≤ i then some (i + n).toNat else none
def clipIx (n d : Nat) : Option Int → Nat
  | none => d
  | some v => if v < 0 then (v + (n : Int)).toNat else min v.toNat n
def cutL {α : Type} (xs : List α) (lo hi : Option Int) : List α := (xs.drop (clipIx xs.length 0 lo)).take (clipIx xs.length xs.length hi - clipIx xs.length 0 lo)
def tyName : Dt → String
  | .none => "NoneType"
  | .bool _ => "bool"
  | .int _ => "int"
  | .str _ => "str"
  | .list _ => "list"
  | .tuple _ => "tuple"
  | .dict _ => "dict"
def isTy (d : Dt) (t : String) : Bool := tyName d == t || (tyName d == "bool" && t == "int")
def tyOk (t : String) : Bool := ["int", "bool", "tuple", "list", "str"].contains t
def isDict : Dt → Bool
  | .dict _ => true
  | _ => false
def shp (d : Dt) : Bool := SeqAt.shaped d

/-- no larger than a machine's word (never a walk over a numeral) -/
def inBig : Int → Bool
  | .ofNat n => Nat.ble n 2305843009213693952
  | .negSucc n => Nat.ble n 2305843009213693952
theorem inBig_iff {a : Int} (h : inBig a = true) : -(2 ^ 62) ≤ a ∧ a < 2 ^ 62 := by
  cases a with
  | ofNat n =>
    have : n ≤ 2305843009213693952 := Nat.le_of_ble_eq_true h
    rw [show Int.ofNat n = (n : Int) from rfl]
    constructor <;> omega
  | negSucc n =>
    have : n ≤ 2305843009213693952 := Nat.le_of_ble_eq_true h
    constructor <;> omega
theorem inBig_nat {n : Nat} (h : n ≤ 2305843009213693952) : inBig (n : Int) = true := Nat.ble_eq_true_of_le h
theorem inBig_of {a : Int} (h1 : -2305843009213693952 ≤ a) (h2 : a ≤ 2305843009213693952) : inBig a = true := by
  cases a with
  | ofNat n =>
    rw [show Int.ofNat n = (n : Int) from rfl] at h1 h2
    exact Nat.ble_eq_true_of_le (by omega)
  | negSucc n => exact Nat.ble_eq_true_of_le (by omega)
def evCmp (f : Int → Int → Bool) : Dt → Dt → Option Dt
  | .int a, .int b => some (.bool (f a b))
  | _, _ => none
def evEq : Dt → Dt → Option Bool
  | .str a, .str b => some (a == b)
  | .int a, .int b => some (a == b)
  | .bool a, .bool b => some (a == b)
  | a, b => if shp a && shp b then some (PyData.eqv a b) else none
def evIn (x : Dt) : Dt → Option Bool
  | .list ys => if shp x && shp (.list ys) then some (ys.any fun z => PyData.eqv z x) else none
  | .tuple ys => if shp x && shp (.tuple ys) then some (ys.any fun z => PyData.eqv z x) else none
  | _ => none
def showOk (d : Dt) : Bool := PyData.showable d && !PyData.hasDict d && decide (PyData.depth d ≤ 64) && decide ((PyData.shown d).length ≤ cap)
def idxF (ys : List Dt) (x : Dt) : Option Nat := ys.findIdx? fun z => PyData.eqv z x

def evAdd : Dt → Dt → Option Dt
  | .int a, .int b => some (.int (a + b))
  | .list xs, .list ys => if xs.length + ys.length ≤ cap then some (.list (xs ++ ys)) else none
  | .tuple xs, .tuple ys => if xs.length + ys.length ≤ cap then some (.tuple (xs ++ ys)) else none
  | _, _ => none
def evMul : Dt → Dt → Option Dt
  | .int a, .int b => if mulOk a b then some (.int (a * b)) else none
  | .list xs, .int k => if inBig k && decide (0 ≤ k) && Nat.ble (xs.length * k.toNat) cap then some (.list (List.replicate k.toNat xs).flatten) else none
  | .tuple xs, .int k => if xs ≠ [] ∧ 2 ≤ k ∧ k ≤ 1000 ∧ xs.length ≤ 1000 then some (.tuple (List.replicate k.toNat xs).flatten) else none
  | _, _ => none
def evInt2 (c : Int → Int → Bool) (g : Int → Int → Int) : Dt → Dt → Option Dt
  | .int a, .int b => if c a b then some (.int (g a b)) else none
  | _, _ => none
def evInt1 (g : Int → Int) : Dt → Option Dt
  | .int a => some (.int (g a))
  | _ => none
def evIdx : Dt → Dt → Option Dt
  | .list xs, .int i => (ixOf xs.length i).bind fun j => xs[j]?
  | .tuple xs, .int i => (ixOf xs.length i).bind fun j => xs[j]?
  | _, _ => none
def evLen : Dt → Option Dt
  | .list xs => some (.int xs.length)
  | .tuple xs => some (.int xs.length)
  | _ => none
def evToInt : Dt → Option Dt
  | .int a => some (.int a)
  | .bool b => some (.int (if b then 1 else 0))
  | _ => none
def evSum : Dt → Option Dt
  | .list xs => (ints? xs).map fun ns => .int ns.sum
  | .tuple xs => (ints? xs).map fun ns => .int ns.sum
  | _ => none
def evBools (g : List Bool → Bool) : Dt → Option Dt
  | .list xs => (bools? xs).map fun bs => .bool (g bs)
  | _ => none
def best (g : Int → List Int → Int) : List Int → Option Dt
  | [] => none
  | m :: r => some (.int (g m r))
def evBest (g : Int → List Int → Int) : Dt → Option Dt
  | .list xs => (ints? xs).bind (best g)
  | _ => none
def evSorted : Dt → Option Dt
  | .list xs => (ints? xs).bind fun ns => if ns.length < 64 then some (.list ((sortI ns).map .int)) else none
  | .tuple xs => (ints? xs).bind fun ns => if ns.length < 64 then some (.list ((sortI ns).map .int)) else none
  | _ => none
def evList : Dt → Option Dt
  | .list xs => some (.list xs)
  | .tuple xs => some (.list xs)
  | _ => none
def evTuple : Dt → Option Dt
  | .list xs => some (.tuple xs)
  | .tuple xs => some (.tuple xs)
  | _ => none
def evIndex (x : Dt) : Dt → Option Dt
  | .list ys => if shp x && shp (.list ys) then (idxF ys x).map fun (j : Nat) => .int (j : Int) else none
  | _ => none
def rangeL (a b : Int) : List Dt := (List.range (b - a).toNat).map fun (k : Nat) => PyData.int (a + (k : Int))
def rngOk (a b : Int) : Option (List Dt) := if inBig a && inBig b && Nat.ble (b - a).toNat 16777216 then some (rangeL a b) else none
def evLrg : Dt → Dt → Option Dt
  | .int a, .int b => (rngOk a b).map .list
  | _, _ => none
def zipL : List Dt → List Dt → List Dt
  | x :: xs, y :: ys => .tuple [x, y] :: zipL xs ys
  | _, _ => []
def evTz : Dt → Dt → Option Dt
  | .tuple xs, .tuple ys => some (.tuple (zipL xs ys))
  | _, _ => none
def evRev : Dt → Option Dt
  | .list xs => if xs.length ≤ cap then some (.list xs.reverse) else none
  | .tuple xs => if xs.length ≤ cap then some (.tuple xs.reverse) else none
  | _ => none
def isNon : Dt → Bool
  | .none => true
  | _ => false
def evOp (o : Op) (ds : List Dt) : Option Dt := match ds with
  | [a] => (match o with
    | .neg => evInt1 (fun i => -i) a
    | .isN => some (.bool (isNon a))
    | .notN => some (.bool (!isNon a))
    | .len => evLen a
    | .abs => evInt1 (fun i => if i < 0 then -i else i) a
    | .toInt => evToInt a
    | .isI t => if isDict a || !tyOk t then none else some (.bool (isTy a t))
    | .isI2 t u => if isDict a || !tyOk t || !tyOk u then none else some (.bool (isTy a t || isTy a u))
    | .sum => evSum a
    | .all => evBools (fun bs => bs.all id) a
    | .any => evBools (fun bs => bs.any id) a
    | .minL => evBest listMin a
    | .maxL => evBest listMax a
    | .sorted => evSorted a
    | .list => evList a
    | .tuple => evTuple a
    | .repr => if showOk a then some (.str (PyData.shown a)) else none
    | .lrg1 => evLrg (.int 0) a
    | .rev => evRev a
    | _ => none)
  | [a, b] => (match o with
    | .add => evAdd a b
    | .sub => evInt2 (fun _ _ => true) (fun i j => i - j) a b
    | .mul => evMul a b
    | .fdiv => evInt2 (fun _ j => divOk j) (fun i j => i / j) a b
    | .mod => evInt2 (fun _ j => decide (0 < j)) (fun i j => i % j) a b
    | .shr => evInt2 (fun _ j => decide (0 ≤ j)) (fun i j => i / 2 ^ j.toNat) a b
    | .shl => evInt2 (fun i j => decide (0 ≤ j ∧ j ≤ 1000000 ∧ i.natAbs < 2 ^ 64)) (fun i j => i * 2 ^ j.toNat) a b
    | .band => evInt2 (fun _ _ => true) Builtin.bitAnd a b
    | .eq => (evEq a b).map .bool
    | .ne => (evEq a b).map fun c => .bool (!c)
    | .lt => evCmp (fun i j => decide (i < j)) a b
    | .le => evCmp (fun i j => decide (i ≤ j)) a b
    | .gt => evCmp (fun i j => decide (j < i)) a b
    | .ge => evCmp (fun i j => decide (j ≤ i)) a b
    | .isin => (evIn a b).map .bool
    | .notin => (evIn a b).map fun c => .bool (!c)
    | .idx => evIdx a b
    | .min2 => evInt2 (fun _ _ => true) (fun i j => if j < i then j else i) a b
    | .max2 => evInt2 (fun _ _ => true) (fun i j => if j > i then j else i) a b
    | .index => evIndex b a
    | .lrg2 => evLrg a b
    | .tzip => evTz a b
    | _ => none)
  | _ => none
/-- a list that comes of it is always new -/
def Op.fr : Op → Bool
  | .add | .mul | .sorted | .list | .lrg1 | .lrg2 | .rev => true
  | _ => false

/-! ### the small language -/
mutual
inductive Ex where
  | var (i : Nat)
  | non | bl (b : Bool) | int (i : Int) | str (s : String)
  | glob (g : String)
  | op (o : Op) (es : Exs)
  | chain (o o2 : Op) (a b c : Ex)
  | and (a b : Ex) | or (a b : Ex) | one (a : Ex) | not (a : Ex)
  | ife (c a b : Ex)
  | tup (es : Exs) | lst (es : Exs)
  | call (f : Nat) (es : Exs)
  | slice (a : Ex) (lo hi : Exs)
  | comp (vs : List Nat) (tg : Tg) (it : Itx) (cs : Exs) (elt : Ex)
  | comp2 (vs : List Nat) (tg : Tg) (it : Itx) (cs : Exs) (ws : List Nat) (tg2 : Tg) (it2 : Itx) (cs2 : Exs) (elt : Ex)
inductive Exs where
  | nil | cons (e : Ex) (es : Exs)
inductive Itx where
  | seq (e : Ex) | rng1 (a : Ex) | rng2 (a b : Ex) | zip (a b : Ex) | enum (a : Ex)
inductive Tg where
  | name (i : Nat) | tup (ts : Tgs) | sub (i j : Nat)
inductive Tgs where
  | nil | cons (t : Tg) (ts : Tgs)
end
mutual
inductive Sx where
  | set (i : Nat) (e : Ex)
  | setO (i : Nat) (e : Ex)
  | setT (tg : Tg) (e : Ex)
  | par (is : List Nat) (es : Exs)
  | aug (i : Nat) (o : Op) (e : Ex)
  | app (i : Nat) (e : Ex)
  | ext (i : Nat) (e : Ex)
  | sto (i : Nat) (ix e : Ex)
  | sto2 (i : Nat) (ix : Ex) (j : Nat) (jx : Ex) (a b : Ex)
  | exp (e : Ex)
  | ret (e : Ex)
  | ite (c : Ex) (a b : Sxs)
  | forr (tg : Tg) (it : Itx) (body : Sxs)
  | whl (c : Ex) (body : Sxs)
  | brk | cont | pass
  | raise (k : Nat)
  | tryR (body : Sxs) (k : Nat) (s : String)
  | frz (i : Nat)
inductive Sxs where
  | nil | cons (s : Sx) (ss : Sxs)
end

inductive Slot where
  | no | val (v : Dt) | own (vs : List Dt)
abbrev Frm := List Slot

inductive Res (α : Type) where
  | ok (a : α) | exc (k : Nat) (f : Frm) | stuck
def Res.bind {α β : Type} : Res α → (α → Res β) → Res β
  | .ok a, f => f a
  | .exc k e, _ => .exc k e
  | .stuck, _ => .stuck
/-- an own list's place, or a datum -/
inductive Pv where
  | v (d : Dt) | o (i : Nat)
inductive CRes where
  | ok (v : Dt) (out : List Dt) | exc (k : Nat) | stuck
inductive Flw where
  | next (f : Frm) | ret (v : Dt) (f : Frm) | brk (f : Frm) | cont (f : Frm) | exc (k : Nat) (f : Frm) | stuck

/-- what an evaluation leans on -/
structure Wd where
  glob : String → Option Dt
  call : Nat → Option (List Dt) → List Dt → CRes
  io : Nat → Bool
  fr : Nat → Bool
  fuel : Nat
  /-- how many exceptions there are -/
  nx : Nat
  /-- the first slot is the caller's own list -/
  own0 : Bool
  /-- what is handed back is new -/
  fresh0 : Bool

def getV (f : Frm) (i : Nat) : Option Dt := match f[i]? with
  | some (.val v) => some v
  | _ => none
def getO (f : Frm) (i : Nat) : Option (List Dt) := match f[i]? with
  | some (.own v) => some v
  | _ => none
def isOwn (f : Frm) (i : Nat) : Bool := match f[i]? with
  | some (.own _) => true
  | _ => false
/-- a name that holds an own list -/
def ownVar (e : Ex) (f : Frm) : Option Nat := match e with
  | .var i => if isOwn f i then some i else none
  | _ => none
def Res.ofO {α : Type} (o : Option α) (f : Frm) : Res (α × Frm) := match o with
  | some a => .ok (a, f)
  | none => .stuck
def resolve (f : Frm) : List Pv → Option (List Dt)
  | [] => some []
  | .v d :: r => (resolve f r).map (d :: ·)
  | .o i :: r => (getO f i).bind fun xs => (resolve f r).map (.list xs :: ·)
def plain : List Pv → Option (List Dt)
  | [] => some []
  | .v d :: r => (plain r).map (d :: ·)
  | .o _ :: _ => none
/-- the comprehension's own slots emptied -/
def wipeF (f : Frm) : List Nat → Frm
  | [] => f
  | v :: vs => (wipeF f vs).set v .no
/-- behind a comprehension: its own slots as they were -/
def backF (f g : Frm) : List Nat → Frm
  | [] => g
  | v :: vs => match f[v]? with
    | some s => (backF f g vs).set v s
    | none => backF f g vs
/-- what is stored in a list's own place -/
def setAt (xs : List Dt) (i : Int) (v : Dt) : Option (List Dt) := (ixOf xs.length i).map fun j => xs.set j v
mutual
def asg : Tg → Dt → Frm → Option Frm
  | .name i, v, f => if isOwn f i || decide (f.length ≤ i) then none else some (f.set i (.val v))
  | .tup ts, .tuple vs, f => asgs ts vs f
  | .sub i j, v, f => match getO f i, getV f j with
    | some xs, some (.int k) => (setAt xs k v).map fun ys => f.set i (.own ys)
    | _, _ => none
  | .tup _, _, _ => none
def asgs : Tgs → List Dt → Frm → Option Frm
  | .nil, [], f => some f
  | .cons t ts, v :: vs, f => (asg t v f).bind fun f' => asgs ts vs f'
  | _, _, _ => none
end
def evSlice (x : Dt) (lo hi : Option Int) : Option Dt := match x with
  | .list xs => some (.list (cutL xs lo hi))
  | .tuple xs => some (.tuple (cutL xs lo hi))
  | _ => none
def compLoop (vs : List Nat) (step : Dt → Frm → Res (Option Dt × Frm)) : List Dt → Frm → Res (List Dt × Frm)
  | [], f => .ok ([], f)
  | x :: xs, f => (step x f).bind fun p => (compLoop vs step xs (wipeF p.2 vs)).bind fun q => .ok (p.1.toList ++ q.1, q.2)
/-- the outer turns of a comprehension with two for -/
def compOut (vs : List Nat) (step : Dt → Frm → Res (List Dt × Frm)) : List Dt → Frm → Res (List Dt × Frm)
  | [], f => .ok ([], f)
  | x :: xs, f => (step x f).bind fun p => (compOut vs step xs (wipeF p.2 vs)).bind fun q => .ok (p.1 ++ q.1, q.2)
def Res.noexc {α : Type} : Res α → Res α
  | .ok a => .ok a
  | _ => .stuck
def enumL : Nat → List Dt → List Dt
  | _, [] => []
  | n, x :: xs => .tuple [.int (n : Int), x] :: enumL (n + 1) xs
def listOf : Dt → Option (List Dt)
  | .list xs => some xs
  | _ => none
def seqOf : Dt → Option (List Dt)
  | .list xs => some xs
  | .tuple xs => some xs
  | _ => none
def zipOk : Dt → Dt → Option (List Dt)
  | .list xs, .list ys => some (zipL xs ys)
  | .tuple xs, .tuple ys => some (zipL xs ys)
  | _, _ => none

mutual
def evE (W : Wd) : Ex → Frm → Res (Dt × Frm)
  | .var i, f => .ofO (getV f i) f
  | .non, f => .ok (.none, f)
  | .bl b, f => .ok (.bool b, f)
  | .int i, f => .ok (.int i, f)
  | .str s, f => .ok (.str (Str.ofString s), f)
  | .glob g, f => .ofO (W.glob g) f
  | .op o es, f => (evPs W es f).bind fun p => .ofO ((resolve p.2 p.1).bind fun vs => evOp o vs) p.2
  | .chain o o2 a b c, f => (evE W a f).bind fun x => (evE W b x.2).bind fun y => match evOp o [x.1, y.1], y.1 with
      | some (.bool true), .int _ => (evE W c y.2).bind fun z => .ofO (evOp o2 [y.1, z.1]) z.2
      | some (.bool false), _ => .ok (.bool false, y.2)
      | _, _ => .stuck
  | .and a b, f => (evE W a f).bind fun x => match x.1 with
      | .bool true => evE W b x.2
      | .bool false => .ok (.bool false, x.2)
      | _ => .stuck
  | .or a b, f => (evE W a f).bind fun x => match x.1 with
      | .bool true => .ok (.bool true, x.2)
      | .bool false => evE W b x.2
      | _ => .stuck
  | .one a, f => evE W a f
  | .not a, f => (evE W a f).bind fun x => match x.1 with
      | .bool b => .ok (.bool (!b), x.2)
      | _ => .stuck
  | .ife c a b, f => (evE W c f).bind fun x => match x.1 with
      | .bool true => evE W a x.2
      | .bool false => evE W b x.2
      | _ => .stuck
  | .tup es, f => (evPs W es f).bind fun p => .ofO ((plain p.1).map .tuple) p.2
  | .lst es, f => (evPs W es f).bind fun p => .ofO ((plain p.1).map .list) p.2
  | .call g es, f => (evPs W es f).bind fun p => match W.io g, p.1 with
      | true, .o i :: r => match getO p.2 i, plain r with
        | some xs, some vs => match W.call g (some xs) vs with
          | .ok v out => .ok (v, p.2.set i (.own out))
          | _ => .stuck
        | _, _ => .stuck
      | false, ps => match plain ps with
        | some vs => match W.call g none vs with
          | .ok v _ => .ok (v, p.2)
          | .exc k => .exc k p.2
          | .stuck => .stuck
        | none => .stuck
      | _, _ => .stuck
  | .slice a lo hi, f => (match ownVar a f with
      | some i => Res.ok (Pv.o i, f)
      | none => (evE W a f).bind fun x => Res.ok (Pv.v x.1, x.2)).bind fun p => (evO W lo p.2).bind fun l => (evO W hi l.2).bind fun h =>
      .ofO ((resolve h.2 [p.1]).bind fun xs => xs.head?.bind fun x => evSlice x l.1 h.1) h.2
  | .comp vs tg it cs elt, f => (evI W it f).bind fun p =>
      if vs.any (isOwn p.2) then .stuck else
      (compLoop vs (fun x g => match asg tg x g with
        | none => .stuck
        | some g1 => match cs with
          | .nil => (evE W elt g1).noexc.bind fun y => .ok (some y.1, y.2)
          | .cons c _ => (evE W c g1).noexc.bind fun b => match b.1 with
            | .bool true => (evE W elt b.2).noexc.bind fun y => .ok (some y.1, y.2)
            | .bool false => .ok (none, b.2)
            | _ => .stuck) p.1 (wipeF p.2 vs)).noexc.bind fun q => .ok (.list q.1, backF p.2 q.2 vs)
  | .comp2 vs tg it cs ws tg2 it2 cs2 elt, f => (evI W it f).bind fun p =>
      if vs.any (isOwn p.2) then .stuck else
      (compOut vs (fun x g => match asg tg x g with
        | none => .stuck
        | some g1 => (match cs with
          | .nil => Res.ok (true, g1)
          | .cons c _ => (evE W c g1).noexc.bind fun b => match b.1 with
            | .bool t => .ok (t, b.2)
            | _ => .stuck).bind fun b => match b.1 with
          | false => .ok ([], b.2)
          | true => (evI W it2 b.2).noexc.bind fun q => (compLoop ws (fun y h => match asg tg2 y h with
            | none => .stuck
            | some h1 => match cs2 with
              | .nil => (evE W elt h1).noexc.bind fun z => .ok (some z.1, z.2)
              | .cons c _ => (evE W c h1).noexc.bind fun b => match b.1 with
                | .bool true => (evE W elt b.2).noexc.bind fun z => .ok (some z.1, z.2)
                | .bool false => .ok (none, b.2)
                | _ => .stuck) q.1 (wipeF q.2 ws)).noexc) p.1 (wipeF p.2 vs)).noexc.bind fun q => if q.1.length ≤ cap then .ok (.list q.1, backF p.2 q.2 vs) else .stuck
def evPs (W : Wd) : Exs → Frm → Res (List Pv × Frm)
  | .nil, f => .ok ([], f)
  | .cons e es, f => match ownVar e f with
      | some i => (evPs W es f).bind fun r => .ok (.o i :: r.1, r.2)
      | none => (evE W e f).bind fun x => (evPs W es x.2).bind fun r => .ok (.v x.1 :: r.1, r.2)
def evO (W : Wd) : Exs → Frm → Res (Option Int × Frm)
  | .nil, f => .ok (none, f)
  | .cons e _, f => (evE W e f).bind fun x => match x.1 with
      | .int i => .ok (some i, x.2)
      | _ => .stuck
def evI (W : Wd) : Itx → Frm → Res (List Dt × Frm)
  | .seq e, f => (evE W e f).bind fun x => .ofO (seqOf x.1) x.2
  | .rng1 a, f => (evE W a f).bind fun x => match x.1 with
      | .int n => .ofO (rngOk 0 n) x.2
      | _ => .stuck
  | .rng2 a b, f => (evE W a f).bind fun x => (evE W b x.2).bind fun y => match x.1, y.1 with
      | .int m, .int n => .ofO (rngOk m n) y.2
      | _, _ => .stuck
  | .zip a b, f => (evE W a f).bind fun x => (evE W b x.2).bind fun y => .ofO (zipOk x.1 y.1) y.2
  | .enum a, f => (evE W a f).bind fun x => .ofO ((seqOf x.1).map (enumL 0)) x.2
end
/-- an expression whose list, if it is one, is always new -/
def isFr (W : Wd) : Ex → Bool
  | .lst _ => true
  | .comp .. => true
  | .comp2 .. => true
  | .call g _ => W.fr g
  | .op o _ => o.fr
  | .slice .. => true
  | _ => false

/-! ### statements -/
def toFlw (r : Res (Dt × Frm)) (k : Dt → Frm → Flw) : Flw := match r with
  | .ok (v, f) => k v f
  | .exc k f => .exc k f
  | .stuck => .stuck
def asgF (t : Option Frm) : Flw := match t with
  | some f => .next f
  | none => .stuck
/-- slot i may take a new value -/
def canSet (W : Wd) (f : Frm) (i : Nat) : Bool := decide (i < f.length) && !isOwn f i
def canOwn (W : Wd) (f : Frm) (i : Nat) : Bool := decide (i < f.length) && !(W.own0 && i == 0)
def forLoop (tg : Tg) (body : Frm → Flw) : List Dt → Frm → Flw
  | [], f => .next f
  | x :: xs, f => match asg tg x f with
    | none => .stuck
    | some g => match body g with
      | .next h => forLoop tg body xs h
      | .cont h => forLoop tg body xs h
      | .brk h => .next h
      | r => r
def whlLoop (c : Frm → Res (Dt × Frm)) (body : Frm → Flw) : Nat → Frm → Flw
  | 0, _ => .stuck
  | n + 1, f => match c f with
    | .ok (.bool true, g) => match body g with
      | .next h => whlLoop c body n h
      | .cont h => whlLoop c body n h
      | .brk h => .next h
      | r => r
    | .ok (.bool false, g) => .next g
    | .exc k g => .exc k g
    | _ => .stuck
def setAll : List Nat → List Dt → Frm → Option Frm
  | [], [], f => some f
  | i :: is, v :: vs, f => if isOwn f i || decide (f.length ≤ i) then none else setAll is vs (f.set i (.val v))
  | _, _, _ => none
def evAug : Op → Dt → Dt → Option Dt
  | .add, .int a, .int b => some (.int (a + b))
  | .sub, .int a, .int b => some (.int (a - b))
  | _, _, _ => none
mutual
def evS (W : Wd) : Sx → Frm → Flw
  | .set i e, f => toFlw (evE W e f) fun v g => if canSet W g i then .next (g.set i (.val v)) else .stuck
  | .setO i e, f => if isFr W e then toFlw (evE W e f) fun v g => match v with
      | .list xs => if canOwn W g i then .next (g.set i (.own xs)) else .stuck
      | _ => .stuck
    else .stuck
  | .setT tg e, f => toFlw (evE W e f) fun v g => asgF (asg tg v g)
  | .par is es, f => match evPs W es f with
      | .ok (ps, g) => match plain ps with
        | some vs => asgF (setAll is vs g)
        | none => .stuck
      | .exc k g => .exc k g
      | .stuck => .stuck
  | .aug i o e, f => match getV f i with
      | some x => toFlw (evE W e f) fun v g => match evAug o x v with
        | some y => if canSet W g i then .next (g.set i (.val y)) else .stuck
        | none => .stuck
      | none => .stuck
  | .app i e, f => if isOwn f i then (toFlw (evE W e f) fun v g => match getO g i with
      | some xs => if xs.length < cap then .next (g.set i (.own (xs ++ [v]))) else .stuck
      | none => .stuck) else .stuck
  | .ext i e, f => if isFr W e && isOwn f i then (toFlw (evE W e f) fun v g => match getO g i, v with
      | some xs, .list ys => if xs.length + ys.length < cap then .next (g.set i (.own (xs ++ ys))) else .stuck
      | _, _ => .stuck) else .stuck
  | .sto i ix e, f => toFlw (evE W e f) fun v g => if isOwn g i then (toFlw (evE W ix g) fun k h => match getO h i, k with
      | some xs, .int k => match setAt xs k v with
        | some ys => .next (h.set i (.own ys))
        | none => .stuck
      | _, _ => .stuck) else .stuck
  | .sto2 i ix j jx a b, f => toFlw (evE W a f) fun v g => toFlw (evE W b g) fun u g => toFlw (evE W ix g) fun k h => match getO h i, k with
      | some xs, .int k => match setAt xs k v with
        | some ys => toFlw (evE W jx (h.set i (.own ys))) fun m h => match getO h j, m with
          | some xs, .int m => match setAt xs m u with
            | some ys => .next (h.set j (.own ys))
            | none => .stuck
          | _, _ => .stuck
        | none => .stuck
      | _, _ => .stuck
  | .exp e, f => toFlw (evE W e f) fun _ g => .next g
  | .ret e, f => match ownVar e f with
      | some i => if canOwn W f i then (match getO f i with
        | some xs => .ret (.list xs) (f.set i .no)
        | none => .stuck) else .stuck
      | none => if W.fresh0 && !isFr W e then .stuck else toFlw (evE W e f) fun v g => .ret v g
  | .ite c a b, f => toFlw (evE W c f) fun v g => match v with
      | .bool true => evSs W a g
      | .bool false => evSs W b g
      | _ => .stuck
  | .forr tg it body, f => match evI W it f with
      | .ok (xs, g) => forLoop tg (evSs W body) xs g
      | .exc k g => .exc k g
      | .stuck => .stuck
  | .whl c body, f => whlLoop (evE W c) (evSs W body) W.fuel f
  | .brk, f => .brk f
  | .cont, f => .cont f
  | .pass, f => .next f
  | .raise k, f => .exc k f
  | .tryR body k s, f => match evSs W body f with
      | .exc k' g => if k' = k then .ret (.str (Str.ofString s)) g else if k' < W.nx then .exc k' g else .stuck
      | r => r
  | .frz i, f => if canOwn W f i then (match getO f i with
      | some xs => .next (f.set i (.val (.list xs)))
      | none => .stuck) else .stuck
def evSs (W : Wd) : Sxs → Frm → Flw
  | .nil, f => .next f
  | .cons s ss, f => match evS W s f with
    | .next g => evSs W ss g
    | r => r
end
/-! ### defs and their calls -/
structure Fn where
  name : String
  names : List String
  np : Nat
  io : Bool
  fr : Bool
  body : Sxs
structure Tab where
  glob : String → Option Dt
  fns : List Fn
  excs : List String
  /-- is the exception one without an __init__ of its own? -/
  plainX : Nat → Bool
  fuel : Nat

def startF (n : Nat) (own : Option (List Dt)) (vs : List Dt) : Frm :=
  let a := (match own with | some xs => [Slot.own xs] | none => []) ++ vs.map Slot.val
  a ++ List.replicate (n - a.length) Slot.no
def endF (own : Bool) : Flw → CRes
  | .next f => if own then (match getO f 0 with | some xs => .ok .none xs | none => .stuck) else .ok .none []
  | .ret v f => if own then (match getO f 0 with | some xs => .ok v xs | none => .stuck) else .ok v []
  | .exc k _ => if own then .stuck else .exc k
  | _ => .stuck
def Tab.ioOf (T : Tab) (g : Nat) : Bool := match T.fns[g]? with | some fn => fn.io | none => false
def Tab.frOf (T : Tab) (g : Nat) : Bool := match T.fns[g]? with | some fn => fn.fr | none => false
def Tab.wd (T : Tab) (call : Nat → Option (List Dt) → List Dt → CRes) (own0 fresh0 : Bool) : Wd := ⟨T.glob, call, T.ioOf, T.frOf, T.fuel, T.excs.length, own0, fresh0⟩
def Tab.call (T : Tab) : Nat → Nat → Option (List Dt) → List Dt → CRes
  | 0, _, _, _ => .stuck
  | d + 1, g, own, vs => match T.fns[g]? with
    | none => .stuck
    | some fn => if own.isSome = fn.io ∧ vs.length + (if fn.io then 1 else 0) = fn.np ∧ fn.np ≤ fn.names.length then
        endF fn.io (evSs (T.wd (T.call d) fn.io fn.fr) fn.body (startF fn.names.length own vs)) else .stuck
end Ev


set_option Elab.async false
set_option linter.all false
set_option maxRecDepth 100000
/-! Ev, part 2: how data stand in the abstract heap; frames; what stays. -/
namespace Ev
open PySem L2
open PySem.W (Frag)

/-- a list of the module's own top -/
def KL (K : Frag) (a : Addr) (xs : List V) : Prop :=
  ∃ (its : List Value) (n : Nat), K.lookup a = some { cls := .type "list", data := .seq its.toArray n } ∧ its.length ≤ sizeLine ∧ Vals xs its
theorem KL.seq {K : Frag} {H : Hp} {a : Addr} {xs : List V} (h : KL K a xs) : SqL K H a xs := by
  obtain ⟨its, n, e, z, r⟩ := h
  exact .inr ⟨_, _, n, e, rfl, rfl, rfl, by simpa using z, by simpa using r⟩
/-- a list that is to be read -/
def LiT (K : Frag) (H : Hp) (a : Addr) (xs : List V) : Prop := H a = some (.lst xs) ∨ (∃ o, H a = some (.frz o (.lst xs))) ∨ KL K a xs
theorem LiT.seq {K : Frag} {H : Hp} {a : Addr} {xs : List V} (h : LiT K H a xs) : SqL K H a xs := by
  rcases h with h | ⟨o, h⟩ | h
  · exact .inl (.inl h)
  · exact .inl (.inr ⟨o, h⟩)
  · exact h.seq
theorem LiT.obj {X : Cx} {pins : List (Addr × Obj)} {σ : L2.St} {H : Hp} {s : Shared} {a : Addr} {xs : List V} (h : LiT X.K H a xs) (I : Inv X pins σ H s) :
    ∃ (its : List Value) (n : Nat), Vals xs its ∧ xs.length ≤ sizeLine ∧ s.heap.get? a = some { cls := .type "list", data := .seq its.toArray n } := by
  rcases h with h | ⟨o, h⟩ | ⟨its, n, e, z, r⟩
  · obtain ⟨z, its, n, r, e⟩ := I.hok a _ h
    exact ⟨its, n, r, z, e⟩
  · obtain ⟨_, z, its, n, r, e⟩ := I.hok a _ h
    exact ⟨its, n, r, z, e⟩
  · exact ⟨its, n, r, by rw [r.length]; exact z, I.kIn _ _ e⟩
/-- .. Z: lists that others may change -/
def LsAt (K : Frag) (Z : Addr → Prop) (H : Hp) (a : Addr) (xs : List V) : Prop :=
  (H a = some (.lst xs) ∧ ¬ Z a) ∨ ((∃ o, H a = some (.frz o (.lst xs))) ∧ xs.length ≤ sizeLine) ∨ KL K a xs
theorem LsAt.lt {K : Frag} {Z : Addr → Prop} {H : Hp} {a : Addr} {xs : List V} (h : LsAt K Z H a xs) : LiT K H a xs := by
  rcases h with ⟨h, _⟩ | ⟨h, _⟩ | h
  · exact .inl h
  · exact .inr (.inl h)
  · exact .inr (.inr h)
mutual
def Rep (K : Frag) (Z : Addr → Prop) (H : Hp) : Dt → V → Prop
  | .none, w => w = .non
  | .bool b, w => w = .bl b
  | .int i, w => w = .int i
  | .str s, w => w = .str s
  | .tuple vs, w => ∃ a ws, w = .ref a ∧ SqT K H a ws ∧ Reps K Z H vs ws
  | .list vs, w => ∃ a ws, w = .ref a ∧ LsAt K Z H a ws ∧ Reps K Z H vs ws
  | .dict _, _ => False
def Reps (K : Frag) (Z : Addr → Prop) (H : Hp) : List Dt → List V → Prop
  | [], ws => ws = []
  | v :: vs, ws => ∃ w r, ws = w :: r ∧ Rep K Z H v w ∧ Reps K Z H vs r
end
/-- as Rep, where the list itself may be anybody's -/
def RepT (K : Frag) (Z : Addr → Prop) (H : Hp) : Dt → V → Prop
  | .list vs, w => ∃ a ws, w = .ref a ∧ LiT K H a ws ∧ Reps K Z H vs ws
  | v, w => Rep K Z H v w
def RepTs (K : Frag) (Z : Addr → Prop) (H : Hp) : List Dt → List V → Prop
  | [], ws => ws = []
  | v :: vs, ws => ∃ w r, ws = w :: r ∧ RepT K Z H v w ∧ RepTs K Z H vs r
theorem Rep.weak {K : Frag} {Z : Addr → Prop} {H : Hp} : ∀ {v : Dt} {w : V}, Rep K Z H v w → RepT K Z H v w
  | .list _, _, h => by
    simp only [Rep] at h
    obtain ⟨a, ws, e, q, r⟩ := h
    exact ⟨a, ws, e, q.lt, r⟩
  | .none, _, h => h
  | .bool _, _, h => h
  | .int _, _, h => h
  | .str _, _, h => h
  | .tuple _, _, h => h
  | .dict _, _, h => h
theorem Reps.weak {K : Frag} {Z : Addr → Prop} {H : Hp} : ∀ {vs : List Dt} {ws : List V}, Reps K Z H vs ws → RepTs K Z H vs ws
  | [], _, h => h
  | _ :: _, _, h => by
    simp only [Reps] at h
    obtain ⟨w, r, e, h1, h2⟩ := h
    exact ⟨w, r, e, h1.weak, Reps.weak h2⟩
theorem Reps.length {K : Frag} {Z : Addr → Prop} {H : Hp} : ∀ {vs : List Dt} {ws : List V}, Reps K Z H vs ws → ws.length = vs.length
  | [], _, h => by simp only [Reps] at h; rw [h]; rfl
  | _ :: _, _, h => by
    simp only [Reps] at h
    obtain ⟨w, r, rfl, _, h2⟩ := h
    show r.length + 1 = _
    rw [Reps.length h2]; rfl
theorem RepTs.length {K : Frag} {Z : Addr → Prop} {H : Hp} : ∀ {vs : List Dt} {ws : List V}, RepTs K Z H vs ws → ws.length = vs.length
  | [], _, h => by simp only [RepTs] at h; rw [h]; rfl
  | _ :: _, _, h => by
    simp only [RepTs] at h
    obtain ⟨w, r, rfl, _, h2⟩ := h
    show r.length + 1 = _
    rw [RepTs.length h2]; rfl
theorem Reps.get {K : Frag} {Z : Addr → Prop} {H : Hp} : ∀ {vs : List Dt} {ws : List V} {i : Nat} {v : Dt}, Reps K Z H vs ws → vs[i]? = some v → ∃ w, ws[i]? = some w ∧ Rep K Z H v w
  | [], _, _, _, _, e => by simp at e
  | x :: xs, _, 0, v, h, e => by
    simp only [Reps] at h
    obtain ⟨w, r, rfl, h1, _⟩ := h
    have e' : x = v := by simpa using e
    subst e'
    exact ⟨w, rfl, h1⟩
  | x :: xs, _, i + 1, v, h, e => by
    simp only [Reps] at h
    obtain ⟨w, r, rfl, _, h2⟩ := h
    obtain ⟨w', h3, h4⟩ := Reps.get (i := i) h2 (by simpa using e)
    exact ⟨w', by simpa using h3, h4⟩
theorem Reps.append {K : Frag} {Z : Addr → Prop} {H : Hp} : ∀ {vs us : List Dt} {ws xs : List V}, Reps K Z H vs ws → Reps K Z H us xs → Reps K Z H (vs ++ us) (ws ++ xs)
  | [], _, _, _, h, h' => by simp only [Reps] at h; subst h; exact h'
  | _ :: _, _, _, _, h, h' => by
    simp only [Reps] at h
    obtain ⟨w, r, rfl, h1, h2⟩ := h
    simp only [List.cons_append, Reps]
    exact ⟨w, _, rfl, h1, Reps.append h2 h'⟩
theorem Reps.take {K : Frag} {Z : Addr → Prop} {H : Hp} : ∀ {vs : List Dt} {ws : List V} (n : Nat), Reps K Z H vs ws → Reps K Z H (vs.take n) (ws.take n)
  | _, _, 0, _ => by simp [Reps]
  | [], _, n + 1, h => by simp only [Reps] at h; subst h; simp [Reps]
  | _ :: _, _, n + 1, h => by
    simp only [Reps] at h
    obtain ⟨w, r, rfl, h1, h2⟩ := h
    simp only [List.take_succ_cons, Reps]
    exact ⟨w, _, rfl, h1, Reps.take n h2⟩
theorem Reps.drop {K : Frag} {Z : Addr → Prop} {H : Hp} : ∀ {vs : List Dt} {ws : List V} (n : Nat), Reps K Z H vs ws → Reps K Z H (vs.drop n) (ws.drop n)
  | _, _, 0, h => h
  | [], _, n + 1, h => by simp only [Reps] at h; subst h; simp [Reps]
  | _ :: _, _, n + 1, h => by
    simp only [Reps] at h
    obtain ⟨w, r, rfl, _, h2⟩ := h
    simpa using Reps.drop n h2
theorem Reps.set {K : Frag} {Z : Addr → Prop} {H : Hp} {v : Dt} {w : V} (q : Rep K Z H v w) : ∀ {vs : List Dt} {ws : List V} (n : Nat), Reps K Z H vs ws → Reps K Z H (vs.set n v) (ws.set n w)
  | [], _, _, h => by simp only [Reps] at h; subst h; simp [Reps]
  | _ :: _, _, 0, h => by
    simp only [Reps] at h
    obtain ⟨w', r, rfl, _, h2⟩ := h
    simp only [List.set_cons_zero, Reps]
    exact ⟨w, r, rfl, q, h2⟩
  | _ :: _, _, n + 1, h => by
    simp only [Reps] at h
    obtain ⟨w', r, rfl, h1, h2⟩ := h
    simp only [List.set_cons_succ, Reps]
    exact ⟨w', _, rfl, h1, Reps.set q n h2⟩
theorem Reps.one {K : Frag} {Z : Addr → Prop} {H : Hp} {v : Dt} {w : V} (q : Rep K Z H v w) : Reps K Z H [v] [w] := by
  simp only [Reps]; exact ⟨w, [], rfl, q, rfl⟩
theorem Reps.ofInts {K : Frag} {Z : Addr → Prop} {H : Hp} : ∀ ns : List Int, Reps K Z H (ns.map PyData.int) (ns.map V.int)
  | [] => by simp [Reps]
  | n :: r => by simp only [List.map_cons, Reps, Rep]; exact ⟨_, _, rfl, rfl, Reps.ofInts r⟩
theorem Reps.ints {K : Frag} {Z : Addr → Prop} {H : Hp} : ∀ {vs : List Dt} {ws : List V} {ns : List Int}, ints? vs = some ns → Reps K Z H vs ws → ws = ns.map V.int
  | [], ws, ns, e, h => by simp only [ints?, Option.some.injEq] at e; subst e; simpa [Reps] using h
  | .int i :: r, ws, ns, e, h => by
    simp only [ints?, Option.map_eq_some_iff] at e
    obtain ⟨ns', e, rfl⟩ := e
    simp only [Reps, Rep] at h
    obtain ⟨w, r', rfl, rfl, h2⟩ := h
    rw [Reps.ints e h2]; rfl
  | .none :: r, ws, ns, e, h => by simp [ints?] at e
  | .bool _ :: r, ws, ns, e, h => by simp [ints?] at e
  | .str _ :: r, ws, ns, e, h => by simp [ints?] at e
  | .list _ :: r, ws, ns, e, h => by simp [ints?] at e
  | .tuple _ :: r, ws, ns, e, h => by simp [ints?] at e
  | .dict _ :: r, ws, ns, e, h => by simp [ints?] at e
theorem Reps.bools {K : Frag} {Z : Addr → Prop} {H : Hp} : ∀ {vs : List Dt} {ws : List V} {ns : List Bool}, bools? vs = some ns → Reps K Z H vs ws → ws = ns.map V.bl
  | [], ws, ns, e, h => by simp only [bools?, Option.some.injEq] at e; subst e; simpa [Reps] using h
  | .bool i :: r, ws, ns, e, h => by
    simp only [bools?, Option.map_eq_some_iff] at e
    obtain ⟨ns', e, rfl⟩ := e
    simp only [Reps, Rep] at h
    obtain ⟨w, r', rfl, rfl, h2⟩ := h
    rw [Reps.bools e h2]; rfl
  | .none :: r, ws, ns, e, h => by simp [bools?] at e
  | .int _ :: r, ws, ns, e, h => by simp [bools?] at e
  | .str _ :: r, ws, ns, e, h => by simp [bools?] at e
  | .list _ :: r, ws, ns, e, h => by simp [bools?] at e
  | .tuple _ :: r, ws, ns, e, h => by simp [bools?] at e
  | .dict _ :: r, ws, ns, e, h => by simp [bools?] at e

/-- from H to H': all but the lists Y stands; what stands is not let go -/
structure Kp (Y : Addr → Prop) (H H' : Hp) : Prop where
  st : ∀ a o, H a = some o → (¬ Y a ∨ ∀ xs, o ≠ .lst xs) → H' a = some o
  tr : ∀ a, H a ≠ none → H' a ≠ none
theorem Kp.refl (Y : Addr → Prop) (H : Hp) : Kp Y H H := ⟨fun _ _ e _ => e, fun _ e => e⟩
theorem Kp.free {Y : Addr → Prop} {H H' : Hp} (k : Kp Y H H') {p : Addr} (h : H' p = none) : H p = none := by
  cases q : H p with
  | none => rfl
  | some o => exact absurd h (k.tr p (by rw [q]; simp))
theorem Kp.weak {Y Y' : Addr → Prop} {H H' : Hp} (k : Kp Y H H') (h : ∀ a, Y a → Y' a) : Kp Y' H H' :=
  ⟨fun a o e q => k.st a o e (q.imp (fun n y => n (h a y)) id), k.tr⟩
theorem Kp.trans {Y Y' : Addr → Prop} {H H1 H2 : Hp} (k : Kp Y H H1) (k' : Kp Y' H1 H2) (h : ∀ a, Y' a → Y a ∨ H a = none) : Kp Y H H2 :=
  ⟨fun a o e q => k'.st a o (k.st a o e q) (q.imp (fun n y => (h a y).elim n fun z => by rw [e] at z; cases z) id), fun a e => k'.tr a (k.tr a e)⟩
theorem Kp.new (Y : Addr → Prop) {H : Hp} {p : Addr} {o : HO} (h : H p = none) : Kp Y H (upd H p o) :=
  ⟨fun a o' e _ => by rw [upd_ne (fun z => by subst z; rw [h] at e; cases e)]; exact e, fun a e => by
    rw [upd_ne (fun z => by subst z; exact e h)]; exact e⟩
theorem Kp.of_same {Y : Addr → Prop} {H H' : Hp} (h : Same H H') : Kp Y H H' :=
  ⟨fun a o e _ => h a o e, fun a e => by
    cases q : H a with
    | none => exact absurd q e
    | some o => rw [h a o q]; simp⟩

theorem SqT.keep {K : Frag} {Y : Addr → Prop} {H H' : Hp} {a : Addr} {xs : List V} (h : SqT K H a xs) (k : Kp Y H H') : SqT K H' a xs := by
  rcases h with (h | ⟨o, h⟩) | h
  · exact .inl (.inl (k.st a _ h (.inr fun _ z => nomatch z)))
  · exact .inl (.inr ⟨o, k.st a _ h (.inr fun _ z => nomatch z)⟩)
  · exact .inr h
theorem LsAt.keep {K : Frag} {Z Z' : Addr → Prop} {H H' : Hp} {a : Addr} {xs : List V} (h : LsAt K Z H a xs) (k : Kp Z H H') (hz : ∀ a, Z' a → Z a ∨ H a = none) : LsAt K Z' H' a xs := by
  rcases h with ⟨h, n⟩ | ⟨⟨o, h⟩, l⟩ | h
  · exact .inl ⟨k.st a _ h (.inl n), fun z => (hz a z).elim n fun e => by rw [h] at e; cases e⟩
  · exact .inr (.inl ⟨⟨o, k.st a _ h (.inr fun _ z => nomatch z)⟩, l⟩)
  · exact .inr (.inr h)
mutual
theorem Rep.keep {K : Frag} {Z Z' : Addr → Prop} {H H' : Hp} (k : Kp Z H H') (hz : ∀ a, Z' a → Z a ∨ H a = none) : ∀ (v : Dt) (w : V), Rep K Z H v w → Rep K Z' H' v w
  | .none, _, h => by simpa only [Rep] using h
  | .bool _, _, h => by simpa only [Rep] using h
  | .int _, _, h => by simpa only [Rep] using h
  | .str _, _, h => by simpa only [Rep] using h
  | .dict _, _, h => by simp only [Rep] at h
  | .tuple vs, _, h => by
    simp only [Rep] at h ⊢
    obtain ⟨a, ws, e, q, r⟩ := h
    exact ⟨a, ws, e, SqT.keep q k, Reps.keep k hz vs ws r⟩
  | .list vs, _, h => by
    simp only [Rep] at h ⊢
    obtain ⟨a, ws, e, q, r⟩ := h
    exact ⟨a, ws, e, q.keep k hz, Reps.keep k hz vs ws r⟩
theorem Reps.keep {K : Frag} {Z Z' : Addr → Prop} {H H' : Hp} (k : Kp Z H H') (hz : ∀ a, Z' a → Z a ∨ H a = none) : ∀ (vs : List Dt) (ws : List V), Reps K Z H vs ws → Reps K Z' H' vs ws
  | [], _, h => by simpa only [Reps] using h
  | v :: vs, _, h => by
    simp only [Reps] at h ⊢
    obtain ⟨w, r, e, h1, h2⟩ := h
    exact ⟨w, r, e, Rep.keep k hz v w h1, Reps.keep k hz vs r h2⟩
end
/-- the lengths of the lists and tuples that stand -/
def Len (H : Hp) : Prop := ∀ a xs, (H a = some (.lst xs) ∨ H a = some (.tup xs) ∨ ∃ o, H a = some (.frz o (.tup xs))) → xs.length ≤ sizeLine
theorem Len.upd {H : Hp} (h : Len H) {p : Addr} {o : HO} (n : ∀ xs, o = .lst xs ∨ o = .tup xs → xs.length ≤ sizeLine) (nf : ∀ ob u, o ≠ .frz ob u := by intro _ _ h; cases h) : Len (upd H p o) := fun a xs e => by
  by_cases q : a = p
  · subst q
    rw [upd_same] at e
    rcases e with e | e | ⟨ob, e⟩
    · exact n xs (.inl (Option.some.inj e))
    · exact n xs (.inr (Option.some.inj e))
    · exact absurd (Option.some.inj e) (nf _ _)
  · rw [upd_ne q] at e
    exact h a xs e
theorem sqT_len {K : Frag} {H : Hp} {a : Addr} {xs : List V} (q : SqT K H a xs) (h : Len H) : xs.length ≤ sizeLine := by
  rcases q with (q | ⟨o, q⟩) | ⟨o, its, n, _, _, _, z, r⟩
  · exact h a xs (.inr (.inl q))
  · exact h a xs (.inr (.inr ⟨o, q⟩))
  · rw [r.length, Array.length_toList]
    exact z
theorem LsAt.len {K : Frag} {Z : Addr → Prop} {H : Hp} {a : Addr} {xs : List V} (h : LsAt K Z H a xs) (l : Len H) : xs.length ≤ sizeLine := by
  rcases h with ⟨h, _⟩ | ⟨_, h⟩ | ⟨its, n, _, z, r⟩
  · exact l a xs (.inl h)
  · exact h
  · rw [r.length]
    exact z

/-! ### the frame: slots, own lists -/
structure Cf where
  Z : Addr → Prop
  O : Nat → Option Addr
def Cf.oa (c : Cf) (a : Addr) : Prop := ∃ i, c.O i = some a
def Cf.zo (c : Cf) (a : Addr) : Prop := c.Z a ∨ c.oa a
def Cf.plus (c : Cf) (p : Addr) : Cf := ⟨fun a => c.Z a ∨ a = p, c.O⟩
def Cf.put (c : Cf) (i : Nat) (a : Option Addr) : Cf := ⟨c.Z, fun j => if j = i then a else c.O j⟩
structure R (K : Frag) (c : Cf) (H : Hp) (σ : L2.St) (f : Frm) : Prop where
  len : σ.length = f.length
  ln : Len H
  zt : ∀ a, c.Z a → ∃ xs, H a = some (.lst xs)
  val : ∀ (i : Nat) v, f[i]? = some (.val v) → ∃ w, σ[i]? = some (some w) ∧ Rep K c.zo H v w
  own : ∀ (i : Nat) vs, f[i]? = some (.own vs) → ∃ a ws, c.O i = some a ∧ σ[i]? = some (some (.ref a)) ∧ H a = some (.lst ws) ∧ Reps K c.zo H vs ws
  ow : ∀ (i : Nat) a, c.O i = some a → ∃ vs, f[i]? = some (.own vs)
  inj : ∀ i j a, c.O i = some a → c.O j = some a → i = j
  zf : ∀ i a, c.O i = some a → ¬ c.Z a
section
variable {K : Frag} {c : Cf} {H H' : Hp} {σ : L2.St} {f : Frm}
theorem R.zoT (r : R K c H σ f) {a : Addr} (h : c.zo a) : ∃ xs, H a = some (.lst xs) := by
  rcases h with h | ⟨i, h⟩
  · exact r.zt a h
  · obtain ⟨vs, e⟩ := r.ow i a h
    obtain ⟨a', ws, e1, _, e2, _⟩ := r.own i vs e
    rw [h] at e1; cases e1
    exact ⟨ws, e2⟩
/-- all stands, new things came -/
theorem R.same (r : R K c H σ f) (h : Same H H') (l : Len H') : R K c H' σ f := by
  have k : Kp c.zo H H' := Kp.of_same h
  refine ⟨r.len, l, fun a z => let ⟨xs, e⟩ := r.zt a z; ⟨xs, h _ _ e⟩, fun i v e => ?_, fun i vs e => ?_, r.ow, r.inj, r.zf⟩
  · obtain ⟨w, e1, e2⟩ := r.val i v e
    exact ⟨w, e1, Rep.keep k (fun _ z => .inl z) _ _ e2⟩
  · obtain ⟨a, ws, e1, e2, e3, e4⟩ := r.own i vs e
    exact ⟨a, ws, e1, e2, h _ _ e3, Reps.keep k (fun _ z => .inl z) _ _ e4⟩
/-- a new list is shut to all names -/
theorem R.plus (r : R K c H σ f) (h : Same H H') (l : Len H') {p : Addr} {xs : List V} (hp : H p = none) (hp' : H' p = some (.lst xs)) : R K (c.plus p) H' σ f := by
  have k : Kp c.zo H H' := Kp.of_same h
  have hz : ∀ a, (c.plus p).zo a → c.zo a ∨ H a = none := fun a z => by
    rcases z with (z | z) | z
    · exact .inl (.inl z)
    · subst z; exact .inr hp
    · exact .inl (.inr z)
  refine ⟨r.len, l, fun a z => ?_, fun i v e => ?_, fun i vs e => ?_, r.ow, r.inj, fun i a e z => ?_⟩
  · rcases z with z | z
    · obtain ⟨xs, e⟩ := r.zt a z
      exact ⟨xs, h _ _ e⟩
    · subst z; exact ⟨xs, hp'⟩
  · obtain ⟨w, e1, e2⟩ := r.val i v e
    exact ⟨w, e1, Rep.keep k hz _ _ e2⟩
  · obtain ⟨a, ws, e1, e2, e3, e4⟩ := r.own i vs e
    exact ⟨a, ws, e1, e2, h _ _ e3, Reps.keep k hz _ _ e4⟩
  · rcases z with z | z
    · exact r.zf i a e z
    · subst z
      obtain ⟨xs, e'⟩ := r.zoT (.inr ⟨i, e⟩)
      rw [hp] at e'; cases e'
theorem R.unplus {p : Addr} (r : R K (c.plus p) H σ f) : R K c H σ f := by
  have hz : ∀ a, c.zo a → (c.plus p).zo a ∨ H a = none := fun a z => .inl (z.imp .inl id)
  exact ⟨r.len, r.ln, fun a z => r.zt a (.inl z), fun i v e => let ⟨w, e1, e2⟩ := r.val i v e; ⟨w, e1, Rep.keep (Kp.refl _ _) hz _ _ e2⟩,
    fun i vs e => let ⟨a, ws, e1, e2, e3, e4⟩ := r.own i vs e; ⟨a, ws, e1, e2, e3, Reps.keep (Kp.refl _ _) hz _ _ e4⟩, r.ow, r.inj, fun i a e z => r.zf i a e (.inl z)⟩
end

/-! ### what an evaluation's outcome asks -/
/-- a value comes: it stands behind H', which grew out of H; new lists are told -/
def New (K : Frag) (Z : Addr → Prop) (H H' : Hp) (v : Dt) (w : V) : Prop :=
  ∀ us, v = .list us → ∃ p ws, w = .ref p ∧ H p = none ∧ H' p = some (.lst ws) ∧ Reps K (fun a => Z a ∨ a = p) H' us ws
/-- a rule by values: args as data, what comes -/
def Out (K : Frag) (Z : Addr → Prop) (H : Hp) (Q : VK) (fr : Bool) (v : Dt) : Prop :=
  ∀ w H', Same H H' → Len H' → Rep K Z H' v w → (fr = true → New K Z H H' v w) → Q w H'
theorem Same.upd {H : Hp} {p : Addr} {o : HO} (h : H p = none) : Same H (upd H p o) := fun b x e => by
  rw [upd_ne (ne_of_none e h)]; exact e
end Ev


set_option Elab.async false
set_option linter.all false
set_option maxRecDepth 100000
set_option maxHeartbeats 2000000
/-! Ev, part 3: the operators, by values. -/
namespace Ev
open PySem L2 PyProof.Rows
open PySem.W (Frag)

section
variable {K : Frag} {Z : Addr → Prop} {H : Hp} {Q : VK} {fr : Bool}
theorem Out.here {v : Dt} {w : V} (q : Out K Z H Q fr v) (l : Len H) (r : Rep K Z H v w) (n : fr = true → ∀ us, v ≠ .list us) : Q w H :=
  q w H (fun _ _ e => e) l r fun f us e => absurd e (n f us)
theorem Rep.new {v : Dt} {w : V} {p : Addr} {o : HO} (r : Rep K Z H v w) (hp : H p = none) : Rep K (fun a => Z a ∨ a = p) (upd H p o) v w :=
  Rep.keep (Kp.new Z hp) (fun a z => z.imp id fun e => by rw [e]; exact hp) _ _ r
theorem Reps.new {v : List Dt} {w : List V} {p : Addr} {o : HO} (r : Reps K Z H v w) (hp : H p = none) : Reps K (fun a => Z a ∨ a = p) (upd H p o) v w :=
  Reps.keep (Kp.new Z hp) (fun a z => z.imp id fun e => by rw [e]; exact hp) _ _ r
theorem Reps.up {v : List Dt} {w : List V} {p : Addr} {o : HO} (r : Reps K Z H v w) (hp : H p = none) : Reps K Z (upd H p o) v w :=
  Reps.keep (Kp.new Z hp) (fun a z => .inl z) _ _ r
theorem Out.newL {vs : List Dt} {ws : List V} {p : Addr} (q : Out K Z H Q fr (.list vs)) (l : Len H) (zt : ∀ a, Z a → H a ≠ none) (hp : H p = none) (r : Reps K Z H vs ws) (z : ws.length ≤ sizeLine) : Q (.ref p) (upd H p (.lst ws)) := by
  refine q _ _ (Same.upd hp) (l.upd fun xs e => ?_) ?_ fun _ us e => ?_
  · rcases e with e | e
    · cases e; exact z
    · cases e
  · simp only [Rep]
    exact ⟨p, ws, rfl, .inl ⟨upd_same, fun z => zt p z hp⟩, r.up hp⟩
  · injection e with e
    subst e
    exact ⟨p, ws, rfl, hp, upd_same, r.new hp⟩
theorem Out.newT {vs : List Dt} {ws : List V} {p : Addr} (q : Out K Z H Q fr (.tuple vs)) (l : Len H) (hp : H p = none) (r : Reps K Z H vs ws) (z : ws.length ≤ sizeLine) : Q (.ref p) (upd H p (.tup ws)) := by
  refine q _ _ (Same.upd hp) (l.upd fun xs e => ?_) ?_ fun _ us e => nomatch e
  · rcases e with e | e
    · cases e
    · cases e; exact z
  · simp only [Rep]
    exact ⟨p, ws, rfl, .inl (.inl upd_same), r.up hp⟩
end

/-- the rule of an operator -/
def rO (K : Frag) (o : Op) : List V → Hp → VK → Prop := fun xs H Q => ∃ (Z : Addr → Prop) (ds : List Dt) (v : Dt),
  Len H ∧ (∀ a, Z a → H a ≠ none) ∧ RepTs K Z H ds xs ∧ evOp o ds = some v ∧ Out K Z H Q o.fr v
theorem reps2 {K : Frag} {Z : Addr → Prop} {H : Hp} {ds : List Dt} {x y : V} (h : RepTs K Z H ds [x, y]) : ∃ a b, ds = [a, b] ∧ RepT K Z H a x ∧ RepT K Z H b y := by
  match ds, h with
  | [], h => simp [RepTs] at h
  | [a], h => simp [RepTs] at h
  | [a, b], h =>
    simp only [RepTs, List.cons.injEq] at h
    obtain ⟨w, r, ⟨rfl, rfl⟩, h1, w2, r2, ⟨rfl, _⟩, h2, _⟩ := h
    exact ⟨a, b, rfl, h1, h2⟩
  | a :: b :: c :: r, h =>
    simp only [RepTs, List.cons.injEq] at h
    obtain ⟨w, r, ⟨rfl, rfl⟩, h1, w2, r2, ⟨rfl, rfl⟩, h2, w3, r3, h3, _⟩ := h
    cases h3
theorem reps1 {K : Frag} {Z : Addr → Prop} {H : Hp} {ds : List Dt} {x : V} (h : RepTs K Z H ds [x]) : ∃ a, ds = [a] ∧ RepT K Z H a x := by
  match ds, h with
  | [], h => simp [RepTs] at h
  | [a], h =>
    simp only [RepTs, List.cons.injEq] at h
    obtain ⟨w, r, ⟨rfl, _⟩, h1, _⟩ := h
    exact ⟨a, rfl, h1⟩
  | a :: b :: r, h =>
    simp only [RepTs, List.cons.injEq] at h
    obtain ⟨w, r, ⟨rfl, rfl⟩, h1, w2, r2, h2, _⟩ := h
    cases h2
theorem dInt2 {c : Int → Int → Bool} {g : Int → Int → Int} {a b v : Dt} (h : evInt2 c g a b = some v) : ∃ i j, a = .int i ∧ b = .int j ∧ c i j = true ∧ v = .int (g i j) := by
  unfold evInt2 at h
  split at h
  · rename_i i j
    split at h
    · rename_i hc
      exact ⟨i, j, rfl, rfl, hc, (Option.some.inj h).symm⟩
    · cases h
  · cases h
theorem dCmp {f : Int → Int → Bool} {a b v : Dt} (h : evCmp f a b = some v) : ∃ i j, a = .int i ∧ b = .int j ∧ v = .bool (f i j) := by
  unfold evCmp at h
  split at h
  · exact ⟨_, _, rfl, rfl, (Option.some.inj h).symm⟩
  · cases h
theorem dInt1 {g : Int → Int} {a v : Dt} (h : evInt1 g a = some v) : ∃ i, a = .int i ∧ v = .int (g i) := by
  unfold evInt1 at h
  split at h
  · exact ⟨_, rfl, (Option.some.inj h).symm⟩
  · cases h
section
variable {X : Cx}
/-- an operator on two whole numbers -/
theorem opInt2 {o : Op} {f : Value → Value → Sem Value} {C : Int → Int → Prop} {c : Int → Int → Bool} {g : Int → Int → Int} (he : ∀ a b, evOp o [a, b] = evInt2 c g a b) (hc : ∀ i j, c i j = true → C i j)
    (h : OpR X f (rI C fun i j => .int (g i j))) : OpR X f (fun x y H Q => rO X.K o [x, y] H Q) := by
  rintro pins s σ H x y v u Q I rx ry ⟨Z, ds, d, l, zt, rs, e, q⟩
  obtain ⟨a, b, rfl, r1, r2⟩ := reps2 rs
  rw [he] at e
  obtain ⟨i, j, rfl, rfl, hij, rfl⟩ := dInt2 e
  have e1 : x = .int i := r1
  have e2 : y = .int j := r2
  exact h pins s σ H x y v u Q I rx ry ⟨i, j, e1, e2, hc i j hij, q.here l (by simp only [Rep]) (fun _ _ => nofun)⟩
theorem opCmp {o : Op} {f : Value → Value → Sem Value} {g : Int → Int → Bool} (he : ∀ a b, evOp o [a, b] = evCmp g a b)
    (h : OpR X f (rI0 fun i j => .bl (g i j))) : OpR X f (fun x y H Q => rO X.K o [x, y] H Q) := by
  rintro pins s σ H x y v u Q I rx ry ⟨Z, ds, d, l, zt, rs, e, q⟩
  obtain ⟨a, b, rfl, r1, r2⟩ := reps2 rs
  rw [he] at e
  obtain ⟨i, j, rfl, rfl, rfl⟩ := dCmp e
  have e1 : x = .int i := r1
  have e2 : y = .int j := r2
  exact h pins s σ H x y v u Q I rx ry ⟨i, j, e1, e2, q.here l (by simp only [Rep]) (fun _ _ => nofun)⟩
theorem or_sub : OpR X (binaryOp .Sub) (fun x y H Q => rO X.K .sub [x, y] H Q) :=
  opInt2 (o := .sub) (C := fun _ _ => True) (fun _ _ => rfl) (fun _ _ _ => trivial) (opI fun _ _ _ _ _ _ _ _ q => sub_int q)
theorem or_fdiv : OpR X (binaryOp .FloorDiv) (fun x y H Q => rO X.K .fdiv [x, y] H Q) :=
  opInt2 (o := .fdiv) (fun _ _ => rfl) (fun i j h => by simpa [divOk, CDivW] using h) op_fdivW
theorem or_mod : OpR X (binaryOp .Mod) (fun x y H Q => rO X.K .mod [x, y] H Q) :=
  opInt2 (o := .mod) (fun _ _ => rfl) (fun i j h => by simpa using h) op_mod
theorem or_shr : OpR X (binaryOp .RShift) (fun x y H Q => rO X.K .shr [x, y] H Q) :=
  opInt2 (o := .shr) (fun _ _ => rfl) (fun i j h => by simpa using h) op_shr
theorem or_shl : OpR X (binaryOp .LShift) (fun x y H Q => rO X.K .shl [x, y] H Q) :=
  opInt2 (o := .shl) (fun _ _ => rfl) (fun i j h => by simpa [CPow] using h) op_shl
theorem or_band : OpR X (binaryOp .BitAnd) (fun x y H Q => rO X.K .band [x, y] H Q) :=
  opInt2 (o := .band) (C := fun _ _ => True) (fun _ _ => rfl) (fun _ _ _ => trivial) (opI fun _ _ _ _ _ _ _ _ q => and_int q)
theorem or_lt : OpR X (compareOp .Lt) (fun x y H Q => rO X.K .lt [x, y] H Q) := opCmp (o := .lt) (fun _ _ => rfl) op_lt
theorem or_le : OpR X (compareOp .LtE) (fun x y H Q => rO X.K .le [x, y] H Q) := opCmp (o := .le) (fun _ _ => rfl) op_le
theorem or_gt : OpR X (compareOp .Gt) (fun x y H Q => rO X.K .gt [x, y] H Q) := opCmp (o := .gt) (fun _ _ => rfl) op_gt
theorem or_ge : OpR X (compareOp .GtE) (fun x y H Q => rO X.K .ge [x, y] H Q) := opCmp (o := .ge) (fun _ _ => rfl) op_ge
theorem line_cap : (cap : Nat) = sizeLine := by rw [sizeLine_eq]; rfl

theorem or_add : OpR X (binaryOp .Add) (fun x y H Q => rO X.K .add [x, y] H Q) := by
  rintro pins s σ H x y v u Q I rx ry ⟨Z, ds, d, l, zt, rs, e, q⟩
  obtain ⟨a, b, rfl, r1, r2⟩ := reps2 rs
  replace e : evAdd a b = some d := e
  unfold evAdd at e
  split at e
  · cases e
    exact op_add pins s σ H x y v u Q I rx ry ⟨_, _, r1, r2, q.here l (by simp only [Rep]) (fun _ _ => nofun)⟩
  · split at e
    · rename_i hz
      cases e
      simp only [RepT] at r1 r2
      obtain ⟨p1, ws1, rfl, q1, s1⟩ := r1
      obtain ⟨p2, ws2, rfl, q2, s2⟩ := r2
      have hz' : ws1.length + ws2.length ≤ sizeLine := by rw [s1.length, s2.length, ← line_cap]; exact hz
      cases rx
      cases ry
      obtain ⟨its, n, rv, _, e1⟩ := q1.obj I
      obtain ⟨its2, n2, rv2, _, e2⟩ := q2.obj I
      refine PySem.P.add_list e1 e2 ?_ (by rw [List.size_toArray, List.size_toArray, ← rv.length, ← rv2.length]; exact hz')
      rw [show its.toArray ++ its2.toArray = (its ++ its2).toArray by simp]
      have hf : H s.heap.objs.size = none := I.hok.fresh (Nat.le_refl _)
      have hl : (ws1 ++ ws2).length ≤ sizeLine := by rw [List.length_append]; exact hz'
      refine ⟨.ref s.heap.objs.size, _, I.laid (t' := s.toks) (o := .lst (ws1 ++ ws2)) (fun b ob q => Heap.get?_push_of_some _ q) (Nat.le_refl _) ⟨hl, its ++ its2, 0, rv.append rv2, Heap.get?_push_size _ rfl⟩, rfl, ?_⟩
      exact q.newL l zt hf (s1.append s2) hl
    · cases e
  · split at e
    · rename_i hz
      cases e
      simp only [RepT, Rep] at r1 r2
      obtain ⟨p1, ws1, rfl, q1, s1⟩ := r1
      obtain ⟨p2, ws2, rfl, q2, s2⟩ := r2
      have hz' : ws1.length + ws2.length ≤ sizeLine := by rw [s1.length, s2.length, ← line_cap]; exact hz
      have hl : (ws1 ++ ws2).length ≤ sizeLine := by rw [List.length_append]; exact hz'
      refine op_catA pins s σ H _ _ v u Q I rx ry ⟨p1, p2, ws1, ws2, rfl, rfl, q1, q2, hz', fun e => ?_, fun _ e => ?_, fun _ _ p hp => q.newT l hp (s1.append s2) hl⟩
      · refine q.here l ?_ (fun _ _ => nofun)
        subst e
        have e1 := s1.length
        rw [List.eq_nil_of_length_eq_zero e1.symm, List.nil_append]
        simp only [Rep]
        exact ⟨p2, ws2, rfl, q2, s2⟩
      · refine q.here l ?_ (fun _ _ => nofun)
        subst e
        have e2 := s2.length
        rw [List.eq_nil_of_length_eq_zero e2.symm, List.append_nil]
        simp only [Rep]
        exact ⟨p1, ws1, rfl, q1, s1⟩
    · cases e
  · cases e
theorem Reps.rep {K : Frag} {Z : Addr → Prop} {H : Hp} {vs : List Dt} {ws : List V} (h : Reps K Z H vs ws) : ∀ n : Nat, Reps K Z H (List.replicate n vs).flatten (List.replicate n ws).flatten
  | 0 => by simp [Reps]
  | n + 1 => by
    rw [List.replicate_succ, List.replicate_succ, List.flatten_cons, List.flatten_cons]
    exact h.append (Reps.rep h n)
theorem rep_len {α : Type} (xs : List α) : ∀ n : Nat, (List.replicate n xs).flatten.length = xs.length * n
  | 0 => by simp
  | n + 1 => by
    rw [List.replicate_succ, List.flatten_cons, List.length_append, rep_len xs n, Nat.mul_succ]
    omega
/-- a list times a whole number, whoever's the list is -/
theorem timesL {pins : List (Addr × Obj)} {s : Shared} {σ : L2.St} {H : Hp} {p : Addr} {k : Int} {t : Tok} {ws : List V} {Q : VK} (I : Inv X pins σ H s)
    (q : LiT X.K H p ws) (h1 : -(2 ^ 63) ≤ k) (h2 : k < 2 ^ 63) (hz : ws.length * k.toNat ≤ sizeLine) (hQ : ∀ p, H p = none → Q (.ref p) (upd H p (.lst (List.replicate k.toNat ws).flatten))) :
    wpAny (model X.prog X.w) X.A (binaryOp .Mult (.ref p) (.int k t)) (EP X pins σ Q) X.xe s := by
  obtain ⟨us, n, rv, _, e⟩ := q.obj I
  have many : us.toArray.size * k.toNat ≤ sizeLine := by
    rw [List.size_toArray, ← rv.length]
    exact hz
  have c1 : ¬ us.toArray.size * k.toNat > (2 ^ 63 - 1) / 8 := by
    have z : (sizeLine : Nat) ≤ (2 ^ 63 - 1) / 8 := by decide
    omega
  have c2 : ¬ (!Builtin.List.listFitsIndex k) = true := by
    rw [fitsIndex_both h1 h2]; decide
  have c3 : ¬ Builtin.List.listTooLong (us.toArray.size * k.toNat) = true := by
    rw [notLongL many]; decide
  have made : (List.replicate (if us.toArray.isEmpty = true then 0 else k.toNat) us.toArray).foldl (· ++ ·) #[] = (List.replicate k.toNat us).flatten.toArray := by
    have g : ∀ m : Nat, (List.replicate m us.toArray).foldl (· ++ ·) #[] = (List.replicate m us).flatten.toArray := fun m => by
      have z := foldl_rep us m []
      rwa [List.nil_append] at z
    rw [g]
    match us with
    | [] => simp
    | _ :: _ => simp
  have inner := AutoListH.list___mul___list_int_3 p us.toArray n k t c2 c1 c3
  refine wpAny_binaryOp_repeat_ref (T := "list") (U := "int") (by decide) ⟨_, e, rfl⟩ (fun s' => typeIs_int s' k t) noFill_list_mul F.fills_int_mul F.slot_int_rmul repeat_list F.slot_int_index.lookup ?_
  refine call_meets F.slot_int_rmul (typeIs_int s k t) F.entry_int_rmul (F.args_int_rmul_2 _ _) (int___rmul___int_list k t p us.toArray n) ⟨e, rfl, ⟨_, e, rfl⟩, ?_⟩
  refine call_meets F.slot_list_mul ⟨_, e, rfl⟩ F.entry_list_mul (F.args_list_mul_2 _ _) inner ⟨e, ?_⟩
  rw [made]
  have len : (List.replicate k.toNat ws).flatten.length ≤ sizeLine := by rw [rep_len]; exact hz
  exact ⟨.ref _, _, I.lnew (t' := s.toks) (rv.rep k.toNat) len, rfl, hQ _ I.fresh⟩
theorem or_mul : OpR X (binaryOp .Mult) (fun x y H Q => rO X.K .mul [x, y] H Q) := by
  rintro pins s σ H x y v u Q I rx ry ⟨Z, ds, d, l, zt, rs, e, q⟩
  obtain ⟨a, b, rfl, r1, r2⟩ := reps2 rs
  replace e : evMul a b = some d := e
  unfold evMul at e
  split at e
  · split at e
    · rename_i hc
      cases e
      exact op_mulW pins s σ H x y v u Q I rx ry ⟨_, _, r1, r2, by simpa [mulOk, CMulW] using hc, q.here l (by simp only [Rep]) (fun _ _ => nofun)⟩
    · cases e
  · rename_i xs k
    split at e
    · rename_i hc
      simp only [Bool.and_eq_true, decide_eq_true_eq] at hc
      have h1 := hc.1.2
      have h2 := (inBig_iff hc.1.1).2
      have h3 : xs.length * k.toNat ≤ cap := Nat.le_of_ble_eq_true hc.2
      cases e
      simp only [RepT] at r1
      obtain ⟨p1, ws1, rfl, q1, s1⟩ := r1
      have r2 : y = .int k := r2
      subst r2
      cases rx
      obtain ⟨t, rfl⟩ := ry
      have hz : ws1.length * k.toNat ≤ sizeLine := by rw [s1.length, ← line_cap]; exact h3
      exact timesL I q1 (by omega) (by omega) hz fun p hp => q.newL l zt hp (s1.rep _) (by rw [rep_len]; exact hz)
    · cases e
  · rename_i xs k
    split at e
    · rename_i hc
      obtain ⟨h0, h1, h2, h3⟩ := hc
      cases e
      simp only [RepT, Rep] at r1
      obtain ⟨p1, ws1, rfl, q1, s1⟩ := r1
      have r2 : y = .int k := r2
      subst r2
      have el := s1.length
      refine op_repT pins s σ H _ _ v u Q I rx ry ⟨p1, k, ws1, rfl, rfl, q1, fun z => h0 ?_, h1, h2, by rw [el]; exact h3, fun p hp => q.newT l hp (s1.rep _) ?_⟩
      · subst z
        exact List.eq_nil_of_length_eq_zero el.symm
      · rw [rep_len, el, sizeLine_eq]
        exact Nat.le_trans (Nat.mul_le_mul h3 (show k.toNat ≤ 1000 by omega)) (by decide)
    · cases e
  · cases e
end
end Ev


set_option Elab.async false
set_option linter.all false
set_option maxRecDepth 100000
set_option maxHeartbeats 2000000
/-! Ev, part 4: more operators: equality, places, built-ins. -/
namespace Ev
open PySem L2 PyProof.Rows
open PySem.W (Frag)

mutual
theorem Rep.dp {K : Frag} {Z : Addr → Prop} {H : Hp} : ∀ (v : Dt) (w : V), Rep K Z H v w → Dp K H w v
  | .none, _, h => by simp only [Rep] at h; subst h; exact .non
  | .bool b, _, h => by simp only [Rep] at h; subst h; exact .bl b
  | .int i, _, h => by simp only [Rep] at h; subst h; exact .int i
  | .str s, _, h => by simp only [Rep] at h; subst h; exact .str s
  | .dict _, _, h => by simp only [Rep] at h
  | .tuple vs, _, h => by
    simp only [Rep] at h
    obtain ⟨a, ws, rfl, q, r⟩ := h
    exact .tup q (Reps.dp vs ws r)
  | .list vs, _, h => by
    simp only [Rep] at h
    obtain ⟨a, ws, rfl, q, r⟩ := h
    exact .lst q.lt.seq (Reps.dp vs ws r)
theorem Reps.dp {K : Frag} {Z : Addr → Prop} {H : Hp} : ∀ (v : List Dt) (w : List V), Reps K Z H v w → DpAll K H w v
  | [], _, h => by simp only [Reps] at h; subst h; exact .nil
  | v :: vs, _, h => by
    simp only [Reps] at h
    obtain ⟨w, r, rfl, h1, h2⟩ := h
    exact .cons (Rep.dp v w h1) (Reps.dp vs r h2)
end
theorem RepT.dp {K : Frag} {Z : Addr → Prop} {H : Hp} {v : Dt} {w : V} (h : RepT K Z H v w) : Dp K H w v := by
  cases v with
  | list vs =>
    obtain ⟨a, ws, rfl, q, r⟩ := h
    exact .lst q.seq (Reps.dp vs ws r)
  | none => exact Rep.dp (Z := Z) _ _ h
  | bool _ => exact Rep.dp (Z := Z) _ _ h
  | int _ => exact Rep.dp (Z := Z) _ _ h
  | str _ => exact Rep.dp (Z := Z) _ _ h
  | tuple _ => exact Rep.dp (Z := Z) _ _ h
  | dict _ => exact Rep.dp (Z := Z) _ _ h
section
variable {X : Cx}
theorem dEq {a b : Dt} {c : Bool} (h : evEq a b = some c) : (∃ x y, a = .str x ∧ b = .str y ∧ c = (x == y)) ∨ (∃ x y, a = .int x ∧ b = .int y ∧ c = (x == y)) ∨ (∃ x y, a = .bool x ∧ b = .bool y ∧ c = (x == y)) ∨
    (SeqAt.shaped a = true ∧ SeqAt.shaped b = true ∧ c = PyData.eqv a b) := by
  unfold evEq at h
  split at h
  · exact .inl ⟨_, _, rfl, rfl, (Option.some.inj h).symm⟩
  · exact .inr (.inl ⟨_, _, rfl, rfl, (Option.some.inj h).symm⟩)
  · exact .inr (.inr (.inl ⟨_, _, rfl, rfl, (Option.some.inj h).symm⟩))
  · split at h
    · rename_i z
      rw [Bool.and_eq_true] at z
      exact .inr (.inr (.inr ⟨z.1, z.2, (Option.some.inj h).symm⟩))
    · cases h
theorem bl_out {K : Frag} {Z : Addr → Prop} {H : Hp} {Q : VK} {fr : Bool} {b : Bool} (q : Out K Z H Q fr (.bool b)) (l : Len H) : Q (.bl b) H := q.here l (by simp only [Rep]) (fun _ _ => nofun)
theorem int_out {K : Frag} {Z : Addr → Prop} {H : Hp} {Q : VK} {fr : Bool} {b : Int} (q : Out K Z H Q fr (.int b)) (l : Len H) : Q (.int b) H := q.here l (by simp only [Rep]) (fun _ _ => nofun)
theorem or_eq (hu : X.A.units + 65 < cLine) : OpR X (compareOp .Eq) (fun x y H Q => rO X.K .eq [x, y] H Q) := by
  rintro pins s σ H x y v u Q I rx ry ⟨Z, ds, d, l, zt, rs, e, q⟩
  obtain ⟨a, b, rfl, r1, r2⟩ := reps2 rs
  have e : (evEq a b).map .bool = some d := e
  obtain ⟨c, e2, rfl⟩ := Option.map_eq_some_iff.mp e
  rcases dEq e2 with ⟨i, j, rfl, rfl, rfl⟩ | ⟨i, j, rfl, rfl, rfl⟩ | ⟨i, j, rfl, rfl, rfl⟩ | ⟨h1, h2, rfl⟩
  · have r1 : x = .str i := r1
    have r2 : y = .str j := r2
    subst r1 r2
    exact op_eq pins s σ H _ _ v u Q I rx ry ⟨rfl, by rw [dec_str]; exact bl_out q l⟩
  · have r1 : x = .int i := r1
    have r2 : y = .int j := r2
    subst r1 r2
    exact op_eq pins s σ H _ _ v u Q I rx ry ⟨rfl, by rw [dec_int]; exact bl_out q l⟩
  · have r1 : x = .bl i := r1
    have r2 : y = .bl j := r2
    subst r1 r2
    exact op_eq pins s σ H _ _ v u Q I rx ry ⟨rfl, by rw [dec_bl]; exact bl_out q l⟩
  · exact op_eqD (by omega) pins s σ H x y v u Q I rx ry ⟨a, b, r1.dp, r2.dp, h1, h2, bl_out q l⟩
theorem or_ne (hu : X.A.units + 65 < cLine) : OpR X (compareOp .NotEq) (fun x y H Q => rO X.K .ne [x, y] H Q) := by
  rintro pins s σ H x y v u Q I rx ry ⟨Z, ds, d, l, zt, rs, e, q⟩
  obtain ⟨a, b, rfl, r1, r2⟩ := reps2 rs
  have e : (evEq a b).map (fun c => PyData.bool (!c)) = some d := e
  obtain ⟨c, e2, rfl⟩ := Option.map_eq_some_iff.mp e
  rcases dEq e2 with ⟨i, j, rfl, rfl, rfl⟩ | ⟨i, j, rfl, rfl, rfl⟩ | ⟨i, j, rfl, rfl, rfl⟩ | ⟨h1, h2, rfl⟩
  · have r1 : x = .str i := r1
    have r2 : y = .str j := r2
    subst r1 r2
    exact op_ne pins s σ H _ _ v u Q I rx ry ⟨rfl, by rw [dec_str]; exact bl_out q l⟩
  · have r1 : x = .int i := r1
    have r2 : y = .int j := r2
    subst r1 r2
    exact op_ne pins s σ H _ _ v u Q I rx ry ⟨rfl, by rw [dec_int]; exact bl_out q l⟩
  · have r1 : x = .bl i := r1
    have r2 : y = .bl j := r2
    subst r1 r2
    exact op_ne pins s σ H _ _ v u Q I rx ry ⟨rfl, by rw [dec_bl]; exact bl_out q l⟩
  · exact op_neD (by omega) pins s σ H x y v u Q I rx ry ⟨a, b, r1.dp, r2.dp, h1, h2, bl_out q l⟩
theorem dIn {a b : Dt} {c : Bool} (h : evIn a b = some c) : ∃ ys, (b = .list ys ∨ b = .tuple ys) ∧ SeqAt.shaped a = true ∧ SeqAt.shaped b = true ∧ c = ys.any fun z => PyData.eqv z a := by
  unfold evIn at h
  split at h
  · split at h
    · rename_i z
      rw [Bool.and_eq_true] at z
      exact ⟨_, .inl rfl, z.1, z.2, (Option.some.inj h).symm⟩
    · cases h
  · split at h
    · rename_i z
      rw [Bool.and_eq_true] at z
      exact ⟨_, .inr rfl, z.1, z.2, (Option.some.inj h).symm⟩
    · cases h
  · cases h
theorem or_in (hu : X.A.units + 65 < cLine) : OpR X (compareOp .In) (fun x y H Q => rO X.K .isin [x, y] H Q) := by
  rintro pins s σ H x y v u Q I rx ry ⟨Z, ds, d, l, zt, rs, e, q⟩
  obtain ⟨a, b, rfl, r1, r2⟩ := reps2 rs
  have e : (evIn a b).map .bool = some d := e
  obtain ⟨c, e2, rfl⟩ := Option.map_eq_some_iff.mp e
  obtain ⟨ys, hb | hb, h1, h2, rfl⟩ := dIn e2
  · subst hb
    exact op_inD hu pins s σ H x y v u Q I rx ry ⟨a, ys, r1.dp, r2.dp, h1, h2, bl_out q l⟩
  · subst hb
    obtain ⟨as, g1⟩ := Dp.reads I a x v r1.dp rx
    obtain ⟨bs, g2⟩ := Dp.reads I _ y u r2.dp ry
    exact SeqAt.in_tuple_reads g2 g1 (SeqAt.canLay_of_shaped h2) (SeqAt.canLay_of_shaped h1) (room_in_shaped h1 hu) ⟨.bl _, H, I, rfl, bl_out q l⟩
theorem or_notin (hu : X.A.units + 65 < cLine) : OpR X (compareOp .NotIn) (fun x y H Q => rO X.K .notin [x, y] H Q) := by
  rintro pins s σ H x y v u Q I rx ry ⟨Z, ds, d, l, zt, rs, e, q⟩
  obtain ⟨a, b, rfl, r1, r2⟩ := reps2 rs
  have e : (evIn a b).map (fun c => PyData.bool (!c)) = some d := e
  obtain ⟨c, e2, rfl⟩ := Option.map_eq_some_iff.mp e
  obtain ⟨ys, hb | hb, h1, h2, rfl⟩ := dIn e2
  · subst hb
    exact op_notInD hu pins s σ H x y v u Q I rx ry ⟨a, ys, r1.dp, r2.dp, h1, h2, bl_out q l⟩
  · subst hb
    obtain ⟨as, g1⟩ := Dp.reads I a x v r1.dp rx
    obtain ⟨bs, g2⟩ := Dp.reads I _ y u r2.dp ry
    exact SeqAt.notIn_tuple_reads g2 g1 (SeqAt.canLay_of_shaped h2) (SeqAt.canLay_of_shaped h1) (room_in_shaped h1 hu) ⟨.bl _, H, I, rfl, bl_out q l⟩

/-! ### places -/
theorem or_idx : IxR X (fun x y H Q => rO X.K .idx [x, y] H Q) := by
  rintro value slice pins s σ H x y v u Q I rx ry ⟨Z, ds, d, l, zt, rs, e, q⟩ hs
  obtain ⟨a, b, rfl, r1, r2⟩ := reps2 rs
  replace e : evIdx a b = some d := e
  unfold evIdx at e
  split at e
  · rename_i xs i
    simp only [RepT] at r1
    obtain ⟨p, ws, rfl, q1, s1⟩ := r1
    obtain ⟨j, e1, e2⟩ := Option.bind_eq_some_iff.mp e
    obtain ⟨w, e3, e4⟩ := s1.get e2
    have r2 : y = .int i := r2
    subst r2
    refine ix_list value slice pins s σ H _ _ v u Q I rx ry ⟨p, ws, i, w, rfl, rfl, q1.seq, ?_, q.here l e4 (fun f => by cases f)⟩ hs
    have : ixN ws.length i = some j := by rw [s1.length]; exact e1
    unfold atI
    rw [this]
    exact e3
  · rename_i xs i
    simp only [RepT, Rep] at r1
    obtain ⟨p, ws, rfl, q1, s1⟩ := r1
    obtain ⟨j, e1, e2⟩ := Option.bind_eq_some_iff.mp e
    obtain ⟨w, e3, e4⟩ := s1.get e2
    have r2 : y = .int i := r2
    subst r2
    refine ix_tup value slice pins s σ H _ _ v u Q I rx ry ⟨p, ws, i, w, rfl, rfl, q1, ?_, q.here l e4 (fun f => by cases f)⟩ hs
    have : ixN ws.length i = some j := by rw [s1.length]; exact e1
    unfold atI
    rw [this]
    exact e3
  · cases e
theorem Reps.cut {K : Frag} {Z : Addr → Prop} {H : Hp} {vs : List Dt} {ws : List V} (h : Reps K Z H vs ws) (lo hi : Option Int) : Reps K Z H (cutL vs lo hi) (cutV ws lo hi) := by
  unfold cutL cutV
  have e := h.length
  have e1 : ∀ d o, HT.sIx ws.length d o = clipIx vs.length d o := fun d o => by
    rw [e]
    cases o <;> rfl
  rw [e1, e1, e]
  exact (h.drop _).take _
/-- a slice -/
theorem or_slice : SlR X (fun x lo hi H Q => ∃ Z a d, Len H ∧ (∀ a, Z a → H a ≠ none) ∧ RepT X.K Z H a x ∧ evSlice a lo hi = some d ∧ Out X.K Z H Q true d) := by
  rintro pins s σ H x v vl vu lo hi sl Q I rx hs pl pu ⟨Z, a, d, l, zt, r1, e, q⟩
  unfold evSlice at e
  split at e
  · cases e
    simp only [RepT] at r1
    obtain ⟨p, ws, rfl, q1, s1⟩ := r1
    obtain ⟨_, _, _, hl, _⟩ := q1.obj I
    exact sl_list pins s σ H _ v vl vu lo hi sl Q I rx hs pl pu ⟨p, ws, rfl, q1.seq, fun p hp => q.newL l zt hp (s1.cut lo hi) (Nat.le_trans (cutV_length _ _ _) hl)⟩
  · cases e
    simp only [RepT, Rep] at r1
    obtain ⟨p, ws, rfl, q1, s1⟩ := r1
    obtain ⟨_, _, _, hl⟩ := I.tuple q1
    refine sl_tupA pins s σ H _ v vl vu lo hi sl Q I rx hs pl pu ⟨p, ws, rfl, q1, fun hw => ?_, fun _ p hp => q.newT l hp (s1.cut lo hi) (Nat.le_trans (cutV_length _ _ _) hl)⟩
    refine q.here l ?_ (fun _ _ => nofun)
    have c := s1.cut lo hi
    have e : cutV ws lo hi = ws := by
      unfold cutV
      rw [hw.1, hw.2, Nat.sub_zero, List.drop_zero, List.take_length]
    rw [e] at c
    simp only [Rep]
    exact ⟨p, ws, rfl, q1, c⟩
  · cases e

/-! ### built-in functions -/
theorem cr_len : CallR X (.builtin "len") (fun xs H Q => rO X.K .len xs H Q) := by
  rintro pins s σ H vs us Q I r ⟨Z, ds, d, l, zt, rs, e, q⟩
  match ds, e with
  | [a], e =>
    obtain ⟨x, rfl, r1⟩ : ∃ x, vs = [x] ∧ RepT X.K Z H a x := by
      simp only [RepTs] at rs
      obtain ⟨w, r, rfl, h1, rfl⟩ := rs
      exact ⟨w, rfl, h1⟩
    replace e : evLen a = some d := e
    unfold evLen at e
    split at e
    · cases e
      simp only [RepT] at r1
      obtain ⟨p, ws, rfl, q1, s1⟩ := r1
      exact call_len_seq pins s σ H _ us Q I r ⟨p, ws, rfl, .inl q1.seq, by rw [s1.length]; exact int_out q l⟩
    · cases e
      simp only [RepT, Rep] at r1
      obtain ⟨p, ws, rfl, q1, s1⟩ := r1
      exact call_len_seq pins s σ H _ us Q I r ⟨p, ws, rfl, .inr q1, by rw [s1.length]; exact int_out q l⟩
    · cases e
  | [], e => cases e
  | [_, _], e => cases e
  | _ :: _ :: _ :: _, e => cases e
theorem one_of {K : Frag} {o : Op} {xs : List V} {H : Hp} {Q : VK} (hn : ∀ a b, evOp o [a, b] = none) (h : rO K o xs H Q) :
    ∃ Z a x d, xs = [x] ∧ Len H ∧ (∀ a, Z a → H a ≠ none) ∧ RepT K Z H a x ∧ evOp o [a] = some d ∧ Out K Z H Q o.fr d := by
  obtain ⟨Z, ds, d, l, zt, rs, e, q⟩ := h
  match ds, e with
  | [a], e =>
    simp only [RepTs] at rs
    obtain ⟨w, r, rfl, h1, rfl⟩ := rs
    exact ⟨Z, a, w, d, rfl, l, zt, h1, e, q⟩
  | [], e => cases e
  | [a, b], e => rw [hn] at e; cases e
  | _ :: _ :: _ :: _, e => cases e
theorem two_of {K : Frag} {o : Op} {xs : List V} {H : Hp} {Q : VK} (hn : ∀ a, evOp o [a] = none) (h : rO K o xs H Q) :
    ∃ Z a b x y d, xs = [x, y] ∧ Len H ∧ (∀ a, Z a → H a ≠ none) ∧ RepT K Z H a x ∧ RepT K Z H b y ∧ evOp o [a, b] = some d ∧ Out K Z H Q o.fr d := by
  obtain ⟨Z, ds, d, l, zt, rs, e, q⟩ := h
  match ds, e with
  | [a, b], e =>
    simp only [RepTs] at rs
    obtain ⟨w, r, rfl, h1, w2, r2, rfl, h2, rfl⟩ := rs
    exact ⟨Z, a, b, w, w2, d, rfl, l, zt, h1, h2, e, q⟩
  | [], e => cases e
  | [a], e => rw [hn] at e; cases e
  | _ :: _ :: _ :: _, e => cases e
theorem cr_abs : CallR X (.builtin "abs") (fun xs H Q => rO X.K .abs xs H Q) := by
  intro pins s σ H vs us Q I r h
  obtain ⟨Z, a, x, d, rfl, l, zt, r1, e, q⟩ := one_of (fun _ _ => rfl) h
  obtain ⟨i, rfl, rfl⟩ := dInt1 (show evInt1 _ a = some d from e)
  have r1 : x = .int i := r1
  subst r1
  exact call_abs pins s σ H _ us Q I r ⟨i, rfl, int_out q l⟩
theorem cr_toInt : CallR X (.type "int") (fun xs H Q => rO X.K .toInt xs H Q) := by
  intro pins s σ H vs us Q I r h
  obtain ⟨Z, a, x, d, rfl, l, zt, r1, e, q⟩ := one_of (fun _ _ => rfl) h
  replace e : evToInt a = some d := e
  unfold evToInt at e
  split at e
  · cases e
    have r1 : x = .int _ := r1
    subst r1
    exact call_int1 pins s σ H _ us Q I r (.inl ⟨_, rfl, int_out q l⟩)
  · cases e
    have r1 : x = .bl _ := r1
    subst r1
    exact call_int1 pins s σ H _ us Q I r (.inr ⟨_, rfl, int_out q l⟩)
  · cases e
theorem cr_min2 (hc : X.calm = true) : CallR X (.builtin "min") (fun xs H Q => rO X.K .min2 xs H Q) := by
  intro pins s σ H vs us Q I r h
  obtain ⟨Z, a, b, x, y, d, rfl, l, zt, r1, r2, e, q⟩ := two_of (fun _ => rfl) h
  obtain ⟨i, j, rfl, rfl, _, rfl⟩ := dInt2 (show evInt2 _ _ a b = some d from e)
  have r1 : x = .int i := r1
  have r2 : y = .int j := r2
  subst r1 r2
  exact call_min2 hc pins s σ H _ us Q I r ⟨i, j, rfl, int_out q l⟩
theorem cr_max2 (hc : X.calm = true) : CallR X (.builtin "max") (fun xs H Q => rO X.K .max2 xs H Q) := by
  intro pins s σ H vs us Q I r h
  obtain ⟨Z, a, b, x, y, d, rfl, l, zt, r1, r2, e, q⟩ := two_of (fun _ => rfl) h
  obtain ⟨i, j, rfl, rfl, _, rfl⟩ := dInt2 (show evInt2 _ _ a b = some d from e)
  have r1 : x = .int i := r1
  have r2 : y = .int j := r2
  subst r1 r2
  exact call_max2 hc pins s σ H _ us Q I r ⟨i, j, rfl, int_out q l⟩
theorem sum_vals : ∀ {ns : List Int} {its : List Value}, Vals (ns.map V.int) its → ∀ (i : Nat) (v : Value), its.toArray[i]? = some v → ∃ t, v = Value.int (ns.getD i 0) t
  | [], _, r, i, v, e => by cases r; simp at e
  | n :: ns, _, r, i, v, e => by
    cases r with
    | cons r rr =>
      cases i with
      | zero =>
        obtain ⟨t, rfl⟩ := r
        simp only [List.getElem?_toArray, List.getElem?_cons_zero, Option.some.injEq] at e
        exact ⟨t, e.symm⟩
      | succ i =>
        simp only [List.getElem?_toArray, List.getElem?_cons_succ] at e
        have := sum_vals rr i v (by simpa using e)
        simpa using this
theorem preSum_list (ns : List Int) : preSum (fun i => ns.getD i 0) ns.length = ns.sum := by
  have g : ∀ (ns : List Int) (k : Nat), k ≤ ns.length → preSum (fun i => ns.getD i 0) k = (ns.take k).sum := by
    intro ns k
    induction k with
    | zero => intro _; simp [preSum]
    | succ k ih =>
      intro h
      have hk : k < ns.length := h
      rw [preSum, ih (Nat.le_of_lt hk), List.take_add_one, List.getElem?_eq_getElem hk, List.sum_append]
      simp [List.getD, List.getElem?_eq_getElem hk]
  rw [g ns ns.length (Nat.le_refl _), List.take_length]
theorem crx_sum (hc : X.calm = true) : CallR X (.builtin "sum") (fun xs H Q => rO X.K .sum xs H Q) := by
  intro pins s σ H vs us Q I r h
  obtain ⟨Z, a, x, d, rfl, l, zt, r1, e, q⟩ := one_of (fun _ _ => rfl) h
  replace e : evSum a = some d := e
  unfold evSum at e
  split at e
  · obtain ⟨ns, e2, rfl⟩ := Option.map_eq_some_iff.mp e
    simp only [RepT] at r1
    obtain ⟨p, ws, rfl, q1, s1⟩ := r1
    have := s1.ints e2
    subst this
    exact cr_sum hc pins s σ H _ us Q I r ⟨p, ns, rfl, q1.seq, int_out q l⟩
  · obtain ⟨ns, e2, rfl⟩ := Option.map_eq_some_iff.mp e
    simp only [RepT, Rep] at r1
    obtain ⟨p, ws, rfl, q1, s1⟩ := r1
    have := s1.ints e2
    subst this
    obtain ⟨its, rv, ht, _⟩ := I.tuple q1
    rw [Vals.ref1 r]
    have hl := rv.length
    refine call_sum_walkG (wpAny_pyIter_tuple (show s.heap.IsTuple p its.toArray from ht) ?_)
    have hlt : p < s.heap.objs.size := ht.lt
    have hb : ∀ b ∈ [s.heap.objs.size, p], b < (s.heap.push { cls := .type "tuple_iterator", data := .fields #[.ref p, .int 0 0] }).objs.size := by
      intro b hb
      rw [Heap.size_push]
      simp only [List.mem_cons, List.not_mem_nil, or_false] at hb
      rcases hb with rfl | rfl
      · exact Nat.lt_succ_self _
      · exact Nat.lt_succ_of_lt hlt
    refine ⟨_, _, _, _, _, _, fun i => ns.getD i 0, rfl, Walks.tuple (A := X.A.in1) (I.ok.hd hc) _ p (Nat.ne_of_lt hlt) its.toArray, ⟨⟨_, Heap.get?_push_size _ rfl, rfl, rfl⟩, (show s.heap.IsTuple p its.toArray from ht).push _⟩, hb, fun i v hv => sum_vals rv i v hv, fun h' tk t' hk => ?_⟩
    refine ⟨.int ns.sum, H, I.kept fun b o eo => hk b o (fun hm => ?_) (Heap.get?_push_of_some _ eo), ?_, int_out q l⟩
    · rw [List.mem_singleton.mp hm] at eo
      exact absurd (Heap.lt_size eo) (Nat.lt_irrefl _)
    · refine ⟨t', ?_⟩
      have : its.toArray.size = ns.length := by rw [List.size_toArray, ← hl, List.length_map]
      rw [this, preSum_list]
  · cases e
theorem crx_all (hc : X.calm = true) : CallR X (.builtin "all") (fun xs H Q => rO X.K .all xs H Q) := by
  intro pins s σ H vs us Q I r h
  obtain ⟨Z, a, x, d, rfl, l, zt, r1, e, q⟩ := one_of (fun _ _ => rfl) h
  replace e : evBools (fun bs => bs.all id) a = some d := e
  unfold evBools at e
  split at e
  · obtain ⟨ns, e2, rfl⟩ := Option.map_eq_some_iff.mp e
    simp only [RepT] at r1
    obtain ⟨p, ws, rfl, q1, s1⟩ := r1
    have := s1.bools e2
    subst this
    exact cr_all hc pins s σ H _ us Q I r ⟨p, ns, rfl, q1.seq, bl_out q l⟩
  · cases e
theorem crx_any (hc : X.calm = true) : CallR X (.builtin "any") (fun xs H Q => rO X.K .any xs H Q) := by
  intro pins s σ H vs us Q I r h
  obtain ⟨Z, a, x, d, rfl, l, zt, r1, e, q⟩ := one_of (fun _ _ => rfl) h
  replace e : evBools (fun bs => bs.any id) a = some d := e
  unfold evBools at e
  split at e
  · obtain ⟨ns, e2, rfl⟩ := Option.map_eq_some_iff.mp e
    simp only [RepT] at r1
    obtain ⟨p, ws, rfl, q1, s1⟩ := r1
    have := s1.bools e2
    subst this
    exact cr_any hc pins s σ H _ us Q I r ⟨p, ns, rfl, q1.seq, bl_out q l⟩
  · cases e
theorem max_if (x m : Int) : m ≤ (if x > m then x else m) ∧ x ≤ (if x > m then x else m) ∧ ((if x > m then x else m) = x ∨ (if x > m then x else m) = m) := by split <;> omega
theorem min_if (x m : Int) : (if x < m then x else m) ≤ m ∧ (if x < m then x else m) ≤ x ∧ ((if x < m then x else m) = x ∨ (if x < m then x else m) = m) := by split <;> omega
theorem listMax_mem : ∀ (r : List Int) (m : Int), listMax m r ∈ m :: r ∧ ∀ y ∈ m :: r, y ≤ listMax m r
  | [], m => by simp [listMax]
  | x :: r, m => by
    obtain ⟨g1, g2, g3⟩ := max_if x m
    obtain ⟨h1, h2⟩ := listMax_mem r (if x > m then x else m)
    rw [listMax]
    generalize (if x > m then x else m) = M at *
    refine ⟨?_, fun y hy => ?_⟩
    · rcases List.mem_cons.mp h1 with e | e
      · rw [e]; rcases g3 with rfl | rfl <;> simp
      · simp [e]
    · have h3 := h2 _ List.mem_cons_self
      have h4 : y = m ∨ y = x ∨ y ∈ r := by simpa using hy
      rcases h4 with rfl | rfl | h4
      · omega
      · omega
      · exact h2 y (List.mem_cons_of_mem _ h4)
theorem listMin_mem : ∀ (r : List Int) (m : Int), listMin m r ∈ m :: r ∧ ∀ y ∈ m :: r, listMin m r ≤ y
  | [], m => by simp [listMin]
  | x :: r, m => by
    obtain ⟨g1, g2, g3⟩ := min_if x m
    obtain ⟨h1, h2⟩ := listMin_mem r (if x < m then x else m)
    rw [listMin]
    generalize (if x < m then x else m) = M at *
    refine ⟨?_, fun y hy => ?_⟩
    · rcases List.mem_cons.mp h1 with e | e
      · rw [e]; rcases g3 with rfl | rfl <;> simp
      · simp [e]
    · have h3 := h2 _ List.mem_cons_self
      have h4 : y = m ∨ y = x ∨ y ∈ r := by simpa using hy
      rcases h4 with rfl | rfl | h4
      · omega
      · omega
      · exact h2 y (List.mem_cons_of_mem _ h4)
theorem crx_max (hc : X.calm = true) : CallR X (.builtin "max") (fun xs H Q => rO X.K .maxL xs H Q) := by
  intro pins s σ H vs us Q I r h
  obtain ⟨Z, a, x, d, rfl, l, zt, r1, e, q⟩ := one_of (fun _ _ => rfl) h
  replace e : evBest listMax a = some d := e
  unfold evBest at e
  split at e
  · obtain ⟨ns, e2, e3⟩ := Option.bind_eq_some_iff.mp e
    simp only [RepT] at r1
    obtain ⟨p, ws, rfl, q1, s1⟩ := r1
    have := s1.ints e2
    subst this
    match ns, e3 with
    | m :: ms, e3 =>
      cases e3
      obtain ⟨h1, h2⟩ := listMax_mem ms m
      refine cr_max hc pins s σ H _ us Q I r ⟨p, m :: ms, rfl, q1.seq, Nat.succ_pos _, fun k hk hb => ?_⟩
      have : k = listMax m ms := Int.le_antisymm (h2 k hk) (hb _ h1)
      subst this
      exact int_out q l
  · cases e
theorem crx_min (hc : X.calm = true) : CallR X (.builtin "min") (fun xs H Q => rO X.K .minL xs H Q) := by
  intro pins s σ H vs us Q I r h
  obtain ⟨Z, a, x, d, rfl, l, zt, r1, e, q⟩ := one_of (fun _ _ => rfl) h
  replace e : evBest listMin a = some d := e
  unfold evBest at e
  split at e
  · obtain ⟨ns, e2, e3⟩ := Option.bind_eq_some_iff.mp e
    simp only [RepT] at r1
    obtain ⟨p, ws, rfl, q1, s1⟩ := r1
    have := s1.ints e2
    subst this
    match ns, e3 with
    | m :: ms, e3 =>
      cases e3
      obtain ⟨h1, h2⟩ := listMin_mem ms m
      refine cr_min hc pins s σ H _ us Q I r ⟨p, m :: ms, rfl, q1.seq, Nat.succ_pos _, fun k hk hb => ?_⟩
      have : k = listMin m ms := Int.le_antisymm (hb _ h1) (h2 k hk)
      subst this
      exact int_out q l
  · cases e
theorem insI_perm (x : Int) : ∀ r : List Int, (insI x r).Perm (x :: r)
  | [] => .refl _
  | y :: r => by
    unfold insI
    split
    · exact .refl _
    · exact ((insI_perm x r).cons y).trans (.swap x y r)
theorem sortI_perm : ∀ r : List Int, (sortI r).Perm r
  | [] => .refl _
  | x :: r => (insI_perm x _).trans ((sortI_perm r).cons x)
theorem insI_sorted (x : Int) : ∀ r : List Int, r.Pairwise (· ≤ ·) → (insI x r).Pairwise (· ≤ ·)
  | [], _ => by simp [insI]
  | y :: r, h => by
    have h' := List.pairwise_cons.mp h
    unfold insI
    split
    · rename_i hxy
      refine List.pairwise_cons.mpr ⟨fun z hz => ?_, h⟩
      rcases List.mem_cons.mp hz with rfl | hz
      · exact hxy
      · exact Int.le_trans hxy (h'.1 z hz)
    · rename_i hxy
      refine List.pairwise_cons.mpr ⟨fun z hz => ?_, insI_sorted x r h'.2⟩
      rcases List.mem_cons.mp ((insI_perm x r).mem_iff.mp hz) with rfl | hz
      · omega
      · exact h'.1 z hz
theorem sortI_sorted : ∀ r : List Int, (sortI r).Pairwise (· ≤ ·)
  | [] => .nil
  | x :: r => insI_sorted x _ (sortI_sorted r)
theorem sorted_uniq : ∀ {a b : List Int}, a.Perm b → a.Pairwise (· ≤ ·) → b.Pairwise (· ≤ ·) → a = b := fun {a b} p h1 h2 =>
  p.eq_of_pairwise (le := (· ≤ ·)) (fun _ _ _ _ x y => Int.le_antisymm x y) h1 h2
theorem crx_list : CallR X (.type "list") (fun xs H Q => rO X.K .list xs H Q) := by
  intro pins s σ H vs us Q I r h
  obtain ⟨Z, a, x, d, rfl, l, zt, r1, e, q⟩ := one_of (fun _ _ => rfl) h
  replace e : evList a = some d := e
  unfold evList at e
  split at e
  · cases e
    simp only [RepT] at r1
    obtain ⟨p, ws, rfl, q1, s1⟩ := r1
    obtain ⟨_, _, _, hl, _⟩ := q1.obj I
    exact call_list_of pins s σ H _ us Q I r ⟨p, ws, rfl, .inl q1.seq, fun p hp => q.newL l zt hp s1 hl⟩
  · cases e
    simp only [RepT, Rep] at r1
    obtain ⟨p, ws, rfl, q1, s1⟩ := r1
    obtain ⟨_, _, _, hl⟩ := I.tuple q1
    exact call_list_of pins s σ H _ us Q I r ⟨p, ws, rfl, .inr q1, fun p hp => q.newL l zt hp s1 hl⟩
  · cases e
theorem crx_tuple : CallR X (.type "tuple") (fun xs H Q => rO X.K .tuple xs H Q) := by
  intro pins s σ H vs us Q I r h
  obtain ⟨Z, a, x, d, rfl, l, zt, r1, e, q⟩ := one_of (fun _ _ => rfl) h
  replace e : evTuple a = some d := e
  unfold evTuple at e
  split at e
  · cases e
    simp only [RepT] at r1
    obtain ⟨p, ws, rfl, q1, s1⟩ := r1
    obtain ⟨_, _, _, hl, _⟩ := q1.obj I
    exact call_tuple_of pins s σ H _ us Q I r ⟨p, ws, rfl, .inl ⟨q1.seq, fun p hp => q.newT l hp s1 hl⟩⟩
  · cases e
    simp only [RepT, Rep] at r1
    obtain ⟨p, ws, rfl, q1, s1⟩ := r1
    refine call_tuple_of pins s σ H _ us Q I r ⟨p, ws, rfl, .inr ⟨q1, q.here l ?_ (fun _ _ => nofun)⟩⟩
    simp only [Rep]
    exact ⟨p, ws, rfl, q1, s1⟩
  · cases e
/-! ### the kinds of data -/
theorem tyX_of {K : Frag} {Z : Addr → Prop} {H : Hp} {a : Dt} {x : V} (r : RepT K Z H a x) : TyX K H x (.type (tyName a)) := by
  cases a with
  | none => have r : x = .non := r; subst r; exact .base .non
  | bool b => have r : x = .bl b := r; subst r; exact .base (.bl b)
  | int i => have r : x = .int i := r; subst r; exact .base (.int i)
  | str z => have r : x = .str z := r; subst r; exact .base (.str z)
  | dict _ => exact False.elim r
  | list vs =>
    obtain ⟨p, ws, rfl, q, _⟩ := r
    rcases q with q | ⟨o, q⟩ | ⟨its, n, e, _, _⟩
    · exact .base (.lst q)
    · exact .base (.frz q)
    · exact .kList e rfl
  | tuple vs =>
    simp only [RepT, Rep] at r
    obtain ⟨p, ws, rfl, q, _⟩ := r
    rcases q with (q | ⟨o, q⟩) | ⟨o, its, n, e, c, _⟩
    · exact .base (.tup q)
    · exact .fTuple q
    · exact .kTuple e c
theorem kit_all {K : Frag} {a : Dt} {t : String} (h1 : isDict a = false) (h2 : tyOk t = true) : PySem.W.kitOne K (.type (tyName a)) (.type t) = some (isTy a t) := by
  have h2 : t = "int" ∨ t = "bool" ∨ t = "tuple" ∨ t = "list" ∨ t = "str" := by simpa [tyOk] using h2
  refine kit_ty ?_
  cases a with
  | none => rcases h2 with rfl | rfl | rfl | rfl | rfl <;> decide +kernel
  | bool b => rcases h2 with rfl | rfl | rfl | rfl | rfl <;> (simp only [tyName, isTy]; decide +kernel)
  | int i => rcases h2 with rfl | rfl | rfl | rfl | rfl <;> (simp only [tyName, isTy]; decide +kernel)
  | str z => rcases h2 with rfl | rfl | rfl | rfl | rfl <;> (simp only [tyName, isTy]; decide +kernel)
  | dict _ => cases h1
  | list vs => rcases h2 with rfl | rfl | rfl | rfl | rfl <;> (simp only [tyName, isTy]; decide +kernel)
  | tuple vs => rcases h2 with rfl | rfl | rfl | rfl | rfl <;> (simp only [tyName, isTy]; decide +kernel)
theorem cr_isI (t : String) : CallR X (.builtin "isinstance") (fun xs H Q => ∃ x, xs = [x, .ty t] ∧ rO X.K (.isI t) [x] H Q) := by
  rintro pins s σ H vs us Q I r ⟨x, rfl, h⟩
  obtain ⟨Z, a, x', d, ex, l, zt, r1, e, q⟩ := one_of (fun _ _ => rfl) h
  cases ex
  replace e : (if isDict a || !tyOk t then none else some (PyData.bool (isTy a t))) = some d := e
  split at e
  · cases e
  · rename_i hn
    cases e
    have h1 : isDict a = false := by simp_all
    have h2 : tyOk t = true := by simp_all
    exact call_isi pins s σ H _ us Q I r ⟨x, .ty t, _, _, _, rfl, .ty t, tyX_of r1, kit_all h1 h2, bl_out q l⟩
theorem cr_isI2 (t u : String) : CallR X (.builtin "isinstance") (fun xs H Q => ∃ x p, xs = [x, .ref p] ∧ H p = some (.tup [.ty t, .ty u]) ∧ rO X.K (.isI2 t u) [x] H Q) := by
  rintro pins s σ H vs us Q I r ⟨x, p, rfl, hp, h⟩
  obtain ⟨Z, a, x', d, ex, l, zt, r1, e, q⟩ := one_of (fun _ _ => rfl) h
  cases ex
  replace e : (if isDict a || !tyOk t || !tyOk u then none else some (PyData.bool (isTy a t || isTy a u))) = some d := e
  split at e
  · cases e
  · rename_i hn
    cases e
    have h1 : isDict a = false := by simp_all
    have h2 : tyOk t = true := by simp_all
    have h3 : tyOk u = true := by simp_all
    refine call_isiT pins s σ H _ us Q I r ⟨x, p, [.ty t, .ty u], _, [.type t, .type u], _, rfl, hp, .cons (.ty t) (.cons (.ty u) .nil), tyX_of r1, ?_, bl_out q l⟩
    refine kitAny_cons (kit_all h1 h2) (fun z => ?_) (fun z => by rw [z]; rfl)
    rw [z, Bool.false_or]
    refine kitAny_cons (kit_all h1 h3) (fun z => ?_) (fun z => z)
    rw [z]
    exact kitAny_nil
/-! ### repr -/
theorem reads_ref {X : Cx} {pins : List (Addr × Obj)} {σ : L2.St} {H : Hp} {s : Shared} {Z : Addr → Prop} {a : Dt} {x : V} {u : Value} (I : Inv X pins σ H s) (r : RepT X.K Z H a x) (rx : RelV x u) : ∃ as, Reads s.heap u a as := Dp.reads I a x u r.dp rx
theorem shown_int (i : Int) : PyData.shown (.int i) = toString i := by simp [PyData.shown]
theorem cr_repr (hg : X.A.guards = some []) (hu : X.A.units + 100 < cLine) : CallR X (.builtin "repr") (fun xs H Q => rO X.K .repr xs H Q) := by
  intro pins s σ H vs us Q I r h
  obtain ⟨Z, a, x, d, rfl, l, zt, r1, e, q⟩ := one_of (fun _ _ => rfl) h
  replace e : (if showOk a then some (PyData.str (PyData.shown a)) else none) = some d := e
  split at e
  · rename_i hs
    cases e
    unfold showOk at hs
    simp only [Bool.and_eq_true, decide_eq_true_eq, Bool.not_eq_true'] at hs
    obtain ⟨⟨⟨h1, h2⟩, h3⟩, h4⟩ := hs
    obtain ⟨u, rfl, ru⟩ := vals1 r
    obtain ⟨as, rd⟩ := reads_ref I r1 ru
    have fin : ∀ (h' : Heap) (t : Tok) (tk : Nat), (∀ b o, s.heap.get? b = some o → h'.get? b = some o) → EP X pins σ Q (.str (PyData.shown a) t) { s with heap := h', toks := tk } := fun h' t tk hk =>
      ⟨.str (PyData.shown a), H, I.kept hk, ⟨_, rfl⟩, q.here l (by simp only [Rep]) (fun _ _ => nofun)⟩
    have hz : (PyData.shown a).length ≤ sizeLine := by rw [← line_cap]; exact h4
    cases a with
    | dict _ => cases h2
    | list vs =>
      obtain ⟨p, ws, rfl, q1, _⟩ := r1
      cases ru
      exact PySem.repr_of_reads' rd h1 (fun z => by rw [h2] at z; cases z) hg (by omega) (fun _ _ e => e) fin hz
    | tuple vs =>
      simp only [RepT, Rep] at r1
      obtain ⟨p, ws, rfl, q1, _⟩ := r1
      cases ru
      exact PySem.repr_of_reads' rd h1 (fun z => by rw [h2] at z; cases z) hg (by omega) (fun _ _ e => e) fin hz
    | none =>
      have r1 : x = .non := r1
      subst r1
      cases ru
      exact PySem.P.repr_of_none (fin s.heap _ _ fun _ _ e => e)
    | bool b =>
      have r1 : x = .bl b := r1
      subst r1
      cases ru
      exact PySem.P.repr_of_bool (by have := fin s.heap s.toks (s.toks + 1) fun _ _ e => e; simpa [PyData.shown] using this)
    | int i =>
      have r1 : x = .int i := r1
      subst r1
      obtain ⟨t, rfl⟩ := ru
      exact PySem.P.repr_of_int (by simpa [PyData.showable] using h1) (fin s.heap _ _ fun _ _ e => e)
    | str z =>
      have r1 : x = .str z := r1
      subst r1
      obtain ⟨t, rfl⟩ := ru
      exact PySem.P.repr_of_str (fin s.heap _ _ fun _ _ e => e) (by simpa [PyData.shown] using hz)
  · cases e
/-! ### l.index(x) -/
theorem mt_idx (hu : X.A.units + 65 < cLine) : MtR X "list.index" (fun x xs H Q => ∃ y, xs = [y] ∧ rO X.K .index [x, y] H Q) := by
  rintro pins s σ H x xs v us Q I rx rxs ⟨y, rfl, h⟩
  obtain ⟨Z, a, b, x', y', d, e0, l, zt, r1, r2, e, q⟩ := two_of (fun _ => rfl) h
  cases e0
  replace e : evIndex b a = some d := e
  unfold evIndex at e
  split at e
  · rename_i ys
    split at e
    · rename_i hs
      rw [Bool.and_eq_true] at hs
      obtain ⟨j, e2, rfl⟩ := Option.map_eq_some_iff.mp e
      obtain ⟨p, ws, rfl, q1, s1⟩ := r1
      unfold idxF at e2
      obtain ⟨hj, h1, h2⟩ := List.findIdx?_eq_some_iff_getElem.mp e2
      refine mt_indexD hu pins s σ H _ _ v us Q I rx rxs ⟨p, y, b, ys, j, ys[j], rfl, rfl, RepT.dp (Z := Z) (v := .list ys) ⟨p, ws, rfl, q1, s1⟩, r2.dp, hs.2, hs.1, List.getElem?_eq_getElem hj, h1, fun m z hm hz => ?_, int_out q l⟩
      obtain ⟨hm', rfl⟩ := List.getElem?_eq_some_iff.mp hz
      simpa using h2 m hm
    · cases e
  · cases e
end
end Ev


set_option Elab.async false
set_option linter.all false
set_option maxRecDepth 100000
set_option maxHeartbeats 4000000
/-! Ev, part 4b: a sequence from its end. -/
namespace Ev
open PySem L2 PyProof.Rows PySem.Spec
section
variable {P : Program} {w : World} {A : Around} {E : Value → Shared → Prop} {s : Shared}
theorem adj_rev (n : Nat) : Builtin.Slice.sliceAdjust none none (-1) (n : Int) = ((n : Int) - 1, -1) := by
  unfold Builtin.Slice.sliceAdjust
  simp
theorem plc_rev (n : Nat) : Builtin.Slice.slicePlaces ((n : Int) - 1) (-1) (-1) = n := by
  unfold Builtin.Slice.slicePlaces
  rw [if_neg (by decide)]
  split
  · have : ((n : Int) - 1 - (-1) - 1) / (- (-1)) + 1 = (n : Int) := by
      rw [show -(-1 : Int) = 1 from rfl, Int.ediv_one]; omega
    rw [this]; omega
  · omega
theorem applied_rev {sl : Addr} {n : Nat} {u : Tok} {Q : Int × Int × Nat → Shared → Prop} (hs : s.heap.IsSliceOf sl .none .none (.int (-1) u)) (h : Q ((n : Int) - 1, -1, n) s) :
    wpAny (model P w) A (Builtin.Slice.sliceApplied (.ref sl) (pure (n : Int))) Q E s := by
  have hs' := hs
  obtain ⟨ob, e1, e2, e3⟩ := hs'
  unfold Builtin.Slice.sliceApplied Builtin.Slice.sliceFields
  apply wpAny_bind
  apply wpAny_bind
  refine wpAny_field e1 e3 (x := .none) rfl ?_
  apply wpAny_bind
  refine wpAny_field e1 e3 (x := .none) rfl ?_
  apply wpAny_bind
  refine wpAny_field e1 e3 (x := .int (-1) u) rfl ?_
  apply wpAny_pure
  apply wpAny_bind
  refine HT.slicePart_ (.int (-1) u) ?_
  show wpAny _ _ (if ((-1 : Int) == 0) = true then _ else _) _ _ s
  rw [if_neg (by decide)]
  apply wpAny_bind
  refine HT.slicePart_ .none ?_
  apply wpAny_bind
  refine HT.slicePart_ .none ?_
  apply wpAny_bind
  apply wpAny_pure
  show wpAny _ _ (match Builtin.Slice.sliceAdjust none none (-1) (n : Int) with | (a, b) => pure (a, (-1 : Int), Builtin.Slice.slicePlaces a b (-1))) _ _ s
  rw [adj_rev]
  show wpAny _ _ (pure ((n : Int) - 1, (-1 : Int), Builtin.Slice.slicePlaces ((n : Int) - 1) (-1) (-1))) _ _ s
  rw [plc_rev]
  exact wpAny_pure h
theorem pick_rev (xs : Array Value) : (List.range xs.size).filterMap (fun (k : Nat) => xs[((xs.size : Int) - 1 + (k : Int) * (-1)).toNat]?) = xs.toList.reverse := by
  have key : ∀ m, m ≤ xs.size → (List.range m).filterMap (fun (k : Nat) => xs[((xs.size : Int) - 1 + (k : Int) * (-1)).toNat]?) = (xs.toList.drop (xs.size - m)).reverse := fun m => by
    induction m with
    | zero =>
      intro _
      rw [Nat.sub_zero, List.drop_of_length_le (by simp)]
      rfl
    | succ m ih =>
      intro h
      rw [List.range_succ, List.filterMap_append, ih (by omega)]
      have e : ((xs.size : Int) - 1 + -(m : Int)).toNat = xs.size - (m + 1) := by omega
      have hlt : xs.size - (m + 1) < xs.toList.length := by simp; omega
      rw [List.drop_eq_getElem_cons hlt, show xs.size - (m + 1) + 1 = xs.size - m by omega, List.reverse_cons]
      congr 1
      have hlt' : xs.size - (m + 1) < xs.size := by omega
      simp [List.filterMap, e, hlt']
  have := key xs.size (Nat.le_refl _)
  rw [Nat.sub_self, List.drop_zero] at this
  exact this
theorem item_rev {t sl : Addr} {items : Array Value} {u : Tok} {Q : Value → Shared → Prop} (ht : IsTup s.heap t items) (hs : s.heap.IsSliceOf sl .none .none (.int (-1) u))
    (h : Q (.ref s.heap.objs.size) { s with heap := s.heap.push { cls := .type "tuple", data := .seq items.toList.reverse.toArray } }) (hz : items.size ≤ sizeLine) : wpAny (model P w) A (getItem (.ref t) (.ref sl)) Q E s := by
  have hs' := hs
  obtain ⟨ob, e1, e2, e3⟩ := hs'
  have ts : s.TypeIs (.ref sl) "slice" := ⟨ob, e1, e2⟩
  have fit : sizeOk (.seq items.toList.reverse.toArray) := by
    show items.toList.reverse.toArray.size ≤ sizeLine
    simpa using hz
  have sg := PyProof.Rows.slot_tuple_getitem
  unfold getItem
  try with_reducible apply wpAny_holding
  first
    | (apply wpAny_bind; apply wpAny_pure)
    | skip
  apply wpAny_bind
  refine wpAny_sequenceKey ht.typeIs (by decide) ?_
  apply wpAny_bind
  refine wpAny_callSpecial?_slot (name := Str.ofString "__getitem__") ht.typeIs sg (wpAny_call_entry sg ht.typeIs entry_tuple_getitem ?_ (args_tuple_getitem _ _))
  show wpAny _ _ (Builtin.Tuple.tupleItemsOf (.ref t) >>= _) _ _ s
  apply wpAny_bind
  refine tupleItemsOf_ ht ?_
  apply wpAny_bind
  refine wpAny_typeOf ts ?_
  rw [if_pos (by decide)]
  apply wpAny_bind
  refine applied_rev hs ?_
  have no : ¬ ((((items.size : Int) - 1) == 0 && (-1 : Int) == 1 && items.size == items.size) = true) := by
    rw [show ((-1 : Int) == 1) = false from rfl, Bool.and_false, Bool.false_and]
    exact Bool.false_ne_true
  show wpAny _ _ (if (((items.size : Int) - 1) == 0 && (-1 : Int) == 1 && items.size == items.size) = true then _ else _) _ _ s
  rw [if_neg no, pick_rev]
  first
    | exact wpAny_bind (m := Builtin.Tuple.tupleExact _) (wpAny_newObj_type (wpAny_pure ⟨_, rfl, wpAny_pure h⟩) fit)
    | exact wpAny_bind (wpAny_bind (m := Builtin.Tuple.tupleExact _) (wpAny_newObj_type (wpAny_pure ⟨_, rfl, wpAny_pure h⟩) fit))
    | exact wpAny_bind (wpAny_bind (m := Builtin.Tuple.tupleExact _) (wpAny_newObj_type (wpAny_pure (wpAny_pure ⟨_, rfl, wpAny_pure h⟩)) fit))
end
section
variable {X : Cx}
/-- x[::-1], x a list or a tuple -/
def tRevA (K : PySem.W.Frag) (te : TE) : TE := fun σ H Q => te σ H fun x H1 => ∃ a xs, x = .ref a ∧
  ((SqL K H1 a xs ∧ ∀ p, H1 p = none → Q (.ref p) (upd H1 p (.lst xs.reverse))) ∨ (SqT K H1 a xs ∧ ∀ p, H1 p = none → Q (.ref p) (upd H1 p (.tup xs.reverse))))
theorem pe_revA {e : Expr} {te : TE} {k : Nat} {p1 p2 p3 pos : Pos} (he : PE X e te) : PE X (.Subscript e (.Slice none none (some (.UnaryOp .USub (.Constant (.int 1) k p1) p2)) p3) pos) (tRevA X.K te) := by
  constructor
  intro pins s σ H Q I h
  refine Subscript_ (thn (he.run pins s σ H _ I h) ?_)
  rintro v s1 ⟨x, H1, I1, r1, a, xs, rfl, q⟩
  cases r1
  have hst : PO X (some (.UnaryOp .USub (.Constant (.int 1) k p1) p2)) (tPart (tUn (rU fun i => .int (-i)) (tC (.int 1)))) := po_some (pe_un un_neg pe_int)
  refine wpAny_Slice (thn (po_none.run pins s1 σ H1 (fun o H2 => o = none ∧ H2 = H1) I1 ⟨rfl, rfl⟩) ?_)
  rintro vl s2 ⟨l, H2, I2, pl, rfl, rfl⟩
  refine thn (po_none.run pins s2 σ H2 (fun o H3 => o = none ∧ H3 = H2) I2 ⟨rfl, rfl⟩) ?_
  rintro vu s3 ⟨u, H3, I3, pu, rfl, rfl⟩
  refine thn (hst.run pins s3 σ H3 (fun o H4 => o = some (-1) ∧ H4 = H3) I3 ⟨1, rfl, -1, rfl, rfl, rfl⟩) ?_
  rintro vs s4 ⟨o, H4, I4, ps, rfl, rfl⟩
  cases pl
  cases pu
  cases ps with
  | int i tk =>
    have I5 : Inv X pins σ H4 { s4 with heap := s4.heap.push { cls := .type "slice", data := .fields #[.none, .none, .int (-1) tk] } } := I4.kept (t' := s4.toks) fun b ob z => Heap.get?_push_of_some _ z
    show wpAny (model X.prog X.w) X.A (subscriptTail e (.Slice none none (some (.UnaryOp .USub (.Constant (.int 1) k p1) p2)) p3) (.ref a) (.ref s4.heap.objs.size)) (EP X pins σ Q) X.xe { s4 with heap := s4.heap.push { cls := .type "slice", data := .fields #[.none, .none, .int (-1) tk] } }
    rcases q with ⟨hx, q⟩ | ⟨hx, q⟩
    · obtain ⟨its, r, ht, hz⟩ := I5.list hx
      have hlen := r.length
      refine tail_any (ops := [.ref a, .ref s4.heap.objs.size]) ht.isList.typeIs (PySem.slot_list_getitem.lookup) ?_ (by with_unfolding_all rfl)
      refine wpAny_getItem_list_slice ht.isList (Heap.IsSliceOf.new _ .none .none (.int (-1) tk)) .none .none (.int (-1) tk) (by decide) ?_ (by rw [List.size_toArray]; omega)
      rw [PySem.W.krv_pick]
      have fr := I5.hok.fresh (Nat.le_refl _)
      exact ⟨.ref _, _, I5.laid (t' := s4.toks) (o := .lst xs.reverse) (fun b ob z => Heap.get?_push_of_some _ z) (Nat.le_refl _) ⟨by simpa using hz, _, 0, r.reverse, Heap.get?_push_size _ rfl⟩, rfl, q _ fr⟩
    · obtain ⟨its, r, ht, hz⟩ := I5.tuple hx
      have hlen := r.length
      refine tail_any (ops := [.ref a, .ref s4.heap.objs.size]) ht.typeIs (PyProof.Rows.slot_tuple_getitem.lookup) ?_ (by with_unfolding_all rfl)
      refine item_rev ht (Heap.IsSliceOf.new _ .none .none (.int (-1) tk)) ?_ (by rw [List.size_toArray]; omega)
      have fr := I5.hok.fresh (Nat.le_refl _)
      exact ⟨.ref _, _, I5.laid (t' := s4.toks) (o := .tup xs.reverse) (fun b ob z => Heap.get?_push_of_some _ z) (Nat.le_refl _) ⟨by simpa using hz, _, r.reverse, IsTup.new _ _⟩, rfl, q _ fr⟩
end
end Ev


set_option Elab.async false
set_option linter.all false
set_option maxRecDepth 100000
set_option maxHeartbeats 4000000
/-! Ev, part 4c: sorted of a tuple of ints. -/
namespace Ev
open PySem L2 PyProof.Rows PySem.Spec
section
variable {P : Program} {w : World} {A : Around} {E : Value → Shared → Prop} {s : Shared}
/-- the heap behind a tuple's items are collected -/
def colH (h : Heap) (us : List Value) : Heap := (h.push (seqObj "list" #[] 0)).update h.objs.size (Obj.mapSeq (· ++ us.toArray))
theorem colT {t : Addr} {us : List Value} {Q : List Value → Shared → Prop} (ht : IsTup s.heap t us.toArray) (hz : us.length ≤ sizeLine) (h : Q us { s with heap := colH s.heap us }) : wpAny (model P w) A (collect (.ref t)) Q E s := by
  have ht' := ht
  obtain ⟨ob, e1, e2, n, e3⟩ := ht'
  unfold collect
  apply wpAny_bind
  apply wpAny_runValue
  refine codeAny_builtin entry_proto_collect' ?_
  show wpAny _ _ (do again (.builtin "list.__iadd__" ⟨[← newList [], .ref t], []⟩)) _ _ s
  apply wpAny_bind
  refine wpAny_newList ?_
  refine wpAny_pure ⟨Code.quiet_builtin _ (by decide +kernel), ?_⟩
  refine codeAny_builtin entry_list_iadd' ?_
  show wpAny _ _ (Builtin.List.listExtendWith (.ref s.heap.objs.size) (.ref t) (.ref s.heap.objs.size)) _ _ { s with heap := s.heap.push (seqObj "list" #[] 0) }
  unfold Builtin.List.listExtendWith
  have e1' : (s.heap.push (seqObj "list" #[] 0)).get? t = some ob := Heap.get?_push_of_some _ e1
  apply wpAny_bind
  refine wpAny_typeOf (T := "tuple") ⟨ob, e1', e2⟩ ?_
  have tt : (Value.type "tuple" == Value.type "tuple") = true := rfl
  rw [if_pos (by rw [tt, Bool.or_true])]
  have fresh : (s.heap.push (seqObj "list" #[] 0)).get? s.heap.objs.size = some (seqObj "list" #[] 0) := Heap.get?_push_size _ rfl
  apply wpAny_bind
  refine listItems_at e1' e3 ?_
  apply wpAny_bind
  refine listItems_at (xs := #[]) (n := 0) fresh rfl ?_
  rw [if_neg (by simp)]
  apply wpAny_bind
  refine listUpdate_at (xs := #[]) (n := 0) fresh rfl ?_ (Nat.zero_le _) (by simpa using Nat.le_succ_of_le hz)
  apply wpAny_pure
  show wpAny (model P w) A (do
      let y ← load s.heap.objs.size
      match y.data with
      | .seq zs _ => pure zs.toList
      | _ => unsupported "internal:collect") Q E { s with heap := colH s.heap us }
  apply wpAny_bind
  refine wpAny_load (get?_update_seq fresh _) ?_
  show wpAny _ _ (pure ((#[] : Array Value) ++ us.toArray).toList) Q E _
  have em : ((#[] : Array Value) ++ us.toArray).toList = us := by simp
  rw [em]
  exact wpAny_pure h
theorem sortT {t : Addr} {us : List Value} {ns : List Int} {Q : Value → Shared → Prop} (ht : IsTup s.heap t us.toArray) (hz : us.length ≤ sizeLine) (hI : IntsAre us ns)
    (h : ∀ out : List Value, SrtO.Srtd SrtO.ltIv out → SrtO.Stb SrtO.ltIv out us → Q (.ref (s.heap.objs.size + 1)) { s with heap := sortedAll s.heap us out.toArray }) : wpAny (model P w) A (call (.builtin "sorted") [.ref t]) Q E s := by
  refine Calls.call_function_entry kind_sorted plain_sorted entry_sorted (args_sorted1 _) ?_
  unfold Builtin.«sorted»
  apply wpAny_bind (m := checkCount "sorted" 1 1 _)
  apply wpAny_pure
  apply wpAny_bind
  refine colT ht hz ?_
  apply wpAny_bind
  refine wpAny_newList ?_ hz
  have size1 : (colH s.heap us).objs.size = s.heap.objs.size + 1 := by
    unfold colH
    rw [Heap.size_update, size_push']
  have at1 : ((colH s.heap us).push (seqObj "list" us.toArray 0)).get? (s.heap.objs.size + 1) = some (seqObj "list" us.toArray 0) := by
    rw [← size1]
    exact Heap.get?_push_size _ rfl
  show wpAny _ _ _ _ _ { s with heap := (colH s.heap us).push (seqObj "list" us.toArray 0) }
  rw [size1]
  apply wpAny_bind
  apply wpAny_holding
  refine wpAny_call_entry slot_list_sort ⟨_, at1, rfl⟩ entry_list_sort ?_ (args_list_sort _)
  refine SrtO.list_sort_ord SrtO.swo_int at1 hz (fun h2 => SrtO.ints_sortable hI h2) fun out o1 o2 => ⟨_, rfl, ?_⟩
  apply wpAny_pure
  exact ⟨_, rfl, h out o1 o2⟩
end
/-- sorted of a tuple of ints -/
def rSortT (K : PySem.W.Frag) : List V → Hp → VK → Prop := fun vs H Q => ∃ (a : Addr) (ns : List Int), vs = [V.ref a] ∧ SqT K H a (ns.map V.int) ∧
  ∀ (ms : List Int) (p : Addr), ms.Perm ns → ms.Pairwise (· ≤ ·) → H p = none → Q (.ref p) (upd H p (.lst (ms.map V.int)))
theorem cr_sortT {X : Cx} : CallR X (.builtin "sorted") (rSortT X.K) := by
  intro pins s σ H vs us Q I r h
  obtain ⟨a, ns, rfl, hs, q⟩ := h
  obtain ⟨its, rv, ht, hz⟩ := I.tuple hs
  rw [Vals.ref1 r]
  have hints : IntsAre its ns := rv.ints
  refine sortT ht (by rw [← rv.length]; exact hz) hints fun out o1 o2 => ?_
  obtain ⟨k1, k2, k3⟩ := SrtO.ints_out hints o1 o2
  obtain ⟨ep, at2⟩ := PyProof.Rows.sortedAll_at s.heap its out.toArray
  have sz : ((out.map SrtO.iv).map V.int).length ≤ sizeLine := by
    rw [List.length_map] at hz ⊢
    rw [k2.length_eq]
    exact hz
  exact ⟨.ref _, upd H (s.heap.objs.size + 1) (.lst ((out.map SrtO.iv).map V.int)), I.laid (t' := s.toks) (fun _ _ z => PyProof.Rows.sortedAll_old z) (Nat.le_succ _) ⟨sz, out, ep, vals_of_ints k1, at2⟩, rfl, q _ _ k2 k3 (I.hok.fresh (Nat.le_succ _))⟩
section
variable {X : Cx}
theorem crx_sorted : CallR X (.builtin "sorted") (fun xs H Q => rO X.K .sorted xs H Q) := by
  intro pins s σ H vs us Q I r h
  obtain ⟨Z, a, x, d, rfl, l, zt, r1, e, q⟩ := one_of (fun _ _ => rfl) h
  replace e : evSorted a = some d := e
  unfold evSorted at e
  split at e
  · obtain ⟨ns, e2, e3⟩ := Option.bind_eq_some_iff.mp e
    simp only [RepT] at r1
    obtain ⟨p, ws, rfl, q1, s1⟩ := r1
    have := s1.ints e2
    subst this
    split at e3
    · rename_i hz
      cases e3
      refine cr_sorted pins s σ H _ us Q I r ⟨p, ns, rfl, q1.seq, hz, fun ns' p' hp hs hn => ?_⟩
      have : ns' = sortI ns := sorted_uniq (hp.trans (sortI_perm ns).symm) hs (sortI_sorted ns)
      subst this
      refine q.newL l zt hn (Reps.ofInts _) ?_
      rw [List.length_map, (sortI_perm ns).length_eq, ← line_cap]
      exact Nat.le_trans (Nat.le_of_lt hz) (by decide)
    · cases e3
  · obtain ⟨ns, e2, e3⟩ := Option.bind_eq_some_iff.mp e
    simp only [RepT, Rep] at r1
    obtain ⟨p, ws, rfl, q1, s1⟩ := r1
    have := s1.ints e2
    subst this
    split at e3
    · rename_i hz
      cases e3
      refine cr_sortT pins s σ H _ us Q I r ⟨p, ns, rfl, q1, fun ns' p' hp hs hn => ?_⟩
      have : ns' = sortI ns := sorted_uniq (hp.trans (sortI_perm ns).symm) hs (sortI_sorted ns)
      subst this
      refine q.newL l zt hn (Reps.ofInts _) ?_
      rw [List.length_map, (sortI_perm ns).length_eq, ← line_cap]
      exact Nat.le_trans (Nat.le_of_lt hz) (by decide)
    · cases e3
  · cases e
end
end Ev


set_option Elab.async false
set_option linter.all false
set_option maxRecDepth 100000
/-! Ev, part 5: is a term of the small language the given text? -/
namespace Ev
open PySem L2

/-- what the check leans on: the def's names by slot, the defs' names, the exceptions' names -/
structure TrP where
  N : List Str
  fns : List String
  excs : List String
  plainX : Nat → Bool
def kindIs (sc : Scope) (x : Str) (k : NameKind) : Bool := decide (sc.names.lookup x = some k)
def vis (sc : Scope) (x : Str) : Bool := kindIs sc x .local || kindIs sc x .cell || kindIs sc x .free
def isLoc (sc : Scope) (x : Str) : Bool := kindIs sc x .local || kindIs sc x .cell
def gl (sc : Scope) (x : Str) : Bool := kindIs sc x .globalImplicit
def okName (x : Str) : Bool := !(x == ("__debug__" : Str)) && !(x == ("__classdict__" : Str)) && !(x == ("__name__" : Str))
def isB (sc : Scope) (x : Str) (b : String) : Bool := decide (x = Str.ofString b) && gl sc x
def noSlice : Expr → Bool
  | .Slice .. => false
  | _ => true
def noStar : Expr → Bool
  | .Starred .. => false
  | _ => true
def trB1 (sc : Scope) (b : String) : Expr → Option (List Expr)
  | .Call (.Name x _) [a] [] _ => if isB sc x b && noStar a then some [a] else none
  | _ => none
def trB2 (sc : Scope) (b : String) : Expr → Option (List Expr)
  | .Call (.Name x _) [a, c] [] _ => if isB sc x b && noStar a && noStar c then some [a, c] else none
  | _ => none
def trBin (p : Operator) : Expr → Option (List Expr)
  | .BinOp a q b _ => if q = p then some [a, b] else none
  | _ => none
def trCmp (p : CmpOp) : Expr → Option (List Expr)
  | .Compare a [q] [b] _ => if q = p ∧ behindInMarks p b = false then some [a, b] else none
  | _ => none
def trIs (p : CmpOp) : Expr → Option (List Expr)
  | .Compare a [q] [.Constant .none _ _] _ => if q = p then some [a] else none
  | _ => none
def trNeg : Expr → Option (List Expr)
  | .UnaryOp .USub a _ => some [a]
  | _ => none
def trIx : Expr → Option (List Expr)
  | .Subscript a b _ => if noSlice b then some [a, b] else none
  | _ => none
def trIsI (sc : Scope) (t : String) : Expr → Option (List Expr)
  | .Call (.Name x _) [a, .Name y _] [] _ => if isB sc x "isinstance" && isB sc y t && tyOk t && noStar a then some [a] else none
  | _ => none
def trIsI2 (sc : Scope) (t u : String) : Expr → Option (List Expr)
  | .Call (.Name x _) [a, .Tuple [.Name y _, .Name z _] _ _] [] _ => if isB sc x "isinstance" && isB sc y t && isB sc z u && tyOk t && tyOk u && noStar a then some [a] else none
  | _ => none
def trLrg1 (sc : Scope) : Expr → Option (List Expr)
  | .Call (.Name x _) [.Call (.Name y _) [a] [] _] [] _ => if isB sc x "list" && isB sc y "range" && noStar a then some [a] else none
  | _ => none
def trLrg2 (sc : Scope) : Expr → Option (List Expr)
  | .Call (.Name x _) [.Call (.Name y _) [a, b] [] _] [] _ => if isB sc x "list" && isB sc y "range" && noStar a && noStar b then some [a, b] else none
  | _ => none
def trTz (sc : Scope) : Expr → Option (List Expr)
  | .Call (.Name x _) [.Call (.Name y _) [a, b] [] _] [] _ => if isB sc x "tuple" && isB sc y "zip" && noStar a && noStar b then some [a, b] else none
  | _ => none
def trRev : Expr → Option (List Expr)
  | .Subscript a (.Slice none none (some (.UnaryOp .USub (.Constant (.int 1) _ _) _)) _) _ => some [a]
  | _ => none
def trOp (sc : Scope) (o : Op) (e : Expr) : Option (List Expr) := match o with
  | .add => trBin .Add e
  | .sub => trBin .Sub e
  | .mul => trBin .Mult e
  | .fdiv => trBin .FloorDiv e
  | .mod => trBin .Mod e
  | .shr => trBin .RShift e
  | .shl => trBin .LShift e
  | .band => trBin .BitAnd e
  | .neg => trNeg e
  | .eq => trCmp .Eq e
  | .ne => trCmp .NotEq e
  | .lt => trCmp .Lt e
  | .le => trCmp .LtE e
  | .gt => trCmp .Gt e
  | .ge => trCmp .GtE e
  | .isN => trIs .Is e
  | .notN => trIs .IsNot e
  | .isin => trCmp .In e
  | .notin => trCmp .NotIn e
  | .idx => trIx e
  | .len => trB1 sc "len" e
  | .abs => trB1 sc "abs" e
  | .toInt => trB1 sc "int" e
  | .sum => trB1 sc "sum" e
  | .all => trB1 sc "all" e
  | .any => trB1 sc "any" e
  | .minL => trB1 sc "min" e
  | .maxL => trB1 sc "max" e
  | .min2 => trB2 sc "min" e
  | .max2 => trB2 sc "max" e
  | .sorted => trB1 sc "sorted" e
  | .list => trB1 sc "list" e
  | .tuple => trB1 sc "tuple" e
  | .repr => trB1 sc "repr" e
  | .isI t => trIsI sc t e
  | .isI2 t u => trIsI2 sc t u e
  | .index => none
  | .lrg1 => trLrg1 sc e
  | .lrg2 => trLrg2 sc e
  | .tzip => trTz sc e
  | .rev => trRev e
def chOp : Op → CmpOp → Bool
  | .lt, .Lt | .le, .LtE | .gt, .Gt | .ge, .GtE => true
  | _, _ => false
def nmOf (l : List String) (i : Nat) (x : Str) : Bool := match l[i]? with
  | some n => decide (x = Str.ofString n)
  | none => false
mutual
def trT (N : List Str) (sc : Scope) : Tg → Expr → Bool
  | .name i, .Name x _ => decide (N[i]? = some x) && isLoc sc x
  | .tup ts, .Tuple es _ _ => trTs N sc ts es
  | .sub i j, .Subscript (.Name x _) (.Name y _) _ => decide (N[i]? = some x) && vis sc x && okName x && decide (N[j]? = some y) && vis sc y && okName y
  | _, _ => false
def trTs (N : List Str) (sc : Scope) : Tgs → List Expr → Bool
  | .nil, [] => true
  | .cons t ts, e :: es => trT N sc t e && noStar e && trTs N sc ts es
  | _, _ => false
end
mutual
def tgIn (vs : List Nat) : Tg → Bool
  | .name i => vs.contains i
  | .tup ts => tgsIn vs ts
  | .sub _ _ => false
def tgsIn (vs : List Nat) : Tgs → Bool
  | .nil => true
  | .cons t ts => tgIn vs t && tgsIn vs ts
end
mutual
/-- names alone -/
def noSub : Tg → Bool
  | .name _ => true
  | .tup ts => noSubs ts
  | .sub _ _ => false
def noSubs : Tgs → Bool
  | .nil => true
  | .cons t ts => noSub t && noSubs ts
end
def ownOf (N : List Str) (vs : List Nat) : List (Str × Nat) := vs.map fun v => ((N[v]?).getD Str.empty, v)
def isTupT : Tg → Bool
  | .tup _ => true
  | _ => false
mutual
def trE (P : TrP) (sc : Scope) : Ex → Expr → Bool
  | .var i, .Name x _ => decide (P.N[i]? = some x) && vis sc x && okName x
  | .non, .Constant .none _ _ => true
  | .bl b, .Constant (.bool c) _ _ => b == c
  | .int i, .Constant (.int j) _ _ => decide (i = j)
  | .str s, .Constant (.str x) _ _ => decide (x = Str.ofString s)
  | .glob g, .Name x _ => decide (x = Str.ofString g) && gl sc x && okName x
  | .op o es, e => match trOp sc o e with
    | some l => trEs P sc es l
    | none => false
  | .chain o o2 a b c, .Compare ea [p, p2] [eb, ec] _ => chOp o p && chOp o2 p2 && trE P sc a ea && trE P sc b eb && trE P sc c ec
  | .and a b, .BoolOp .And (ea :: eb :: r) p => trE P sc a ea && trE P sc b (.BoolOp .And (eb :: r) p)
  | .or a b, .BoolOp .Or (ea :: eb :: r) p => trE P sc a ea && trE P sc b (.BoolOp .Or (eb :: r) p)
  | .one a, .BoolOp _ [ea] _ => trE P sc a ea
  | .not a, .UnaryOp .Not ea _ => trE P sc a ea
  | .ife c a b, .IfExp ec ea eb _ => trE P sc c ec && trE P sc a ea && trE P sc b eb
  | .tup es, .Tuple l _ _ => trEs P sc es l && decide (l.length ≤ 1000)
  | .lst es, .List l _ => trEs P sc es l && decide (l.length ≤ 1000)
  | .call g es, .Call (.Name x _) (e :: l) [] _ => nmOf P.fns g x && gl sc x && okName x && trEs P sc es (e :: l)
  | .slice a lo hi, .Subscript ea (.Slice l h none _) _ => trE P sc a ea && trEs P sc lo l.toList && trEs P sc hi h.toList && (match l with | none => (match lo with | .nil => true | _ => false) | _ => true) && (match h with | none => (match hi with | .nil => true | _ => false) | _ => true)
  | .comp vs tg it cs elt, .ListComp ee [⟨et, ei, ifs, 0⟩] bs _ =>
      trI P sc it (isTupT tg) ei && blkC P.N sc bs (ownOf P.N vs) && trT P.N bs tg et && tgIn vs tg && decide (ifs.length ≤ 1) && trEs P (relS bs sc) cs ifs && trE P (relS bs sc) elt ee
  | .comp2 vs tg it cs ws tg2 it2 cs2 elt, .ListComp ee [⟨et, ei, ifs, 0⟩, ⟨et2, ei2, ifs2, 0⟩] bs _ =>
      trI P sc it (isTupT tg) ei && blkC P.N sc bs (ownOf P.N vs) && trT P.N bs tg et && tgIn vs tg && decide (ifs.length ≤ 1) && trEs P (relS bs sc) cs ifs &&
      trI P (relS bs sc) it2 (isTupT tg2) ei2 && trT P.N bs tg2 et2 && tgIn ws tg2 && ws.all (fun w => vs.contains w) && decide (ifs2.length ≤ 1) && trEs P (relS bs sc) cs2 ifs2 && trE P (relS bs sc) elt ee
  | _, _ => false
def trEs (P : TrP) (sc : Scope) : Exs → List Expr → Bool
  | .nil, [] => true
  | .cons x xs, e :: es => trE P sc x e && noStar e && trEs P sc xs es
  | _, _ => false
def trI (P : TrP) (sc : Scope) : Itx → Bool → Expr → Bool
  | .seq a, _, e => trE P sc a e && (match e with | .Set .. => false | _ => true)
  | .rng1 a, _, .Call (.Name x _) [ea] [] _ => isB sc x "range" && noStar ea && trE P sc a ea
  | .rng2 a b, _, .Call (.Name x _) [ea, eb] [] _ => isB sc x "range" && noStar ea && noStar eb && trE P sc a ea && trE P sc b eb
  | .zip a b, true, .Call (.Name x _) [ea, eb] [] _ => isB sc x "zip" && noStar ea && noStar eb && trE P sc a ea && trE P sc b eb
  | .enum a, true, .Call (.Name x _) [ea] [] _ => isB sc x "enumerate" && noStar ea && trE P sc a ea
  | _, _, _ => false
end
/-- a test's shape is plain (looked at by its truth) -/
def plainTest : Expr → Bool
  | .UnaryOp .Not _ _ | .BoolOp .. | .IfExp .. | .Compare .. => false
  | _ => true
/-- does  x = [..]  run in x's own place? -/
def swapsB (sc : Scope) (x : Str) (px : Pos) (bs : Scope) (p : Pos) : Bool :=
  kindIs sc x .local && (px.line == p.line) && !(bs.names.any fun (n, k) => n == x && (k == .local || k == .cell))
def isComp : Ex → Bool
  | .comp .. => true
  | _ => false
def lcOk (x : Ex) : Expr → Bool
  | .ListComp .. => isComp x
  | .SetComp .. | .DictComp .. => false
  | _ => true
def isLc : Expr → Bool
  | .ListComp .. => true
  | .SetComp .. => true
  | .DictComp .. => true
  | _ => false
def isTupE : Expr → Bool
  | .Tuple .. => true
  | _ => false
/-! #### shapes of statements -/
def dAsgN : Stmt → Option (Str × Pos × Expr × Pos)
  | .Assign [.Name x px] v p => some (x, px, v, p)
  | _ => none
def dAsgT : Stmt → Option (Expr × Expr × Pos)
  | .Assign [t] v p => some (t, v, p)
  | _ => none
def dPar2 : Stmt → Option ((Str × Pos) × (Str × Pos) × (Nat × Pos) × (Expr × Expr) × (Nat × Pos) × Pos)
  | .Assign [.Tuple [.Name x px, .Name y py] kt pt] (.Tuple [a, b] k2 pt2) p => some ((x, px), (y, py), (kt, pt), (a, b), (k2, pt2), p)
  | _ => none
def dAsgS : Stmt → Option ((Str × Pos) × Expr × Pos × Expr × Pos)
  | .Assign [.Subscript (.Name x px) k sp] v p => some ((x, px), k, sp, v, p)
  | _ => none
def dAug : Stmt → Option ((Str × Pos) × Operator × Expr × Pos)
  | .AugAssign (.Name x px) o v p => some ((x, px), o, v, p)
  | _ => none
def dMeth : Stmt → Option ((Str × Pos) × Str × Pos × Expr × Pos × Pos)
  | .Expr (.Call (.Attribute (.Name x px) m ap) [a] [] cp) p => some ((x, px), m, ap, a, cp, p)
  | _ => none
def dExp : Stmt → Option (Expr × Pos)
  | .Expr v p => some (v, p)
  | _ => none
def dRet : Stmt → Option (Option Expr × Pos)
  | .Return v p => some (v, p)
  | _ => none
def dIf : Stmt → Option (Expr × List Stmt × List Stmt × Pos)
  | .If c a b p => some (c, a, b, p)
  | _ => none
def dFor : Stmt → Option (Expr × Expr × List Stmt × Pos)
  | .For t i b [] p => some (t, i, b, p)
  | _ => none
def dWhl : Stmt → Option (Expr × List Stmt × Pos)
  | .While c b [] p => some (c, b, p)
  | _ => none
def dRaise : Stmt → Option ((Str × Pos) × (Str × Nat × Pos) × Pos × Pos)
  | .Raise (some (.Call (.Name x np) [.Constant (.str m) j p2] [] cp)) none p => some ((x, np), (m, j, p2), cp, p)
  | _ => none
def dTry : Stmt → Option (List Stmt × (Str × Pos) × (Str × Nat × Pos) × Pos × Pos × Pos)
  | .Try lb [.ExceptHandler (some (.Name x np)) none [.Return (some (.Constant (.str z) j zp)) rp] hp] [] [] p => some (lb, (x, np), (z, j, zp), rp, hp, p)
  | _ => none
/-- the stores are not swapped -/
def swNone (sc : Scope) : Expr → Expr → Bool
  | .Tuple ts _ _, .Tuple vs _ _ => (ts.any fun t => !(match t with | .Name id _ => kindIs sc id .local | _ => false)) || vs.all (foldedForSure 8)
  | .Tuple .., _ => true
  | _, _ => false
def isCall : Expr → Bool
  | .Call .. => true
  | _ => false
def augIs : Op → Operator → Bool
  | .add, .Add | .sub, .Sub => true
  | _, _ => false
def isFrz : Sx → Bool
  | .frz _ => true
  | _ => false
mutual
def trS (P : TrP) (sc : Scope) (s : Sx) (st : Stmt) : Bool := match s with
  | .set i e => (match dAsgN st with | some (x, _, v, _) => decide (P.N[i]? = some x) && isLoc sc x && trE P sc e v && lcOk e v | none => false)
  | .setO i e => (match dAsgN st with | some (x, _, v, _) => decide (P.N[i]? = some x) && isLoc sc x && trE P sc e v && lcOk e v | none => false)
  | .setT tg e => (match dAsgT st with | some (t, v, _) => isTupT tg && trT P.N sc tg t && trE P sc e v && swNone sc t v | none => false)
  | .par is es => (match is, dPar2 st with
      | [i, j], some ((x, px), (y, py), _, (a, b), _, _) => decide (P.N[i]? = some x) && decide (P.N[j]? = some y) && kindIs sc x .local && kindIs sc y .local && !(i == j) && (py.line == px.line) && trEs P sc es [a, b] && !([a, b].all (foldedForSure 8)) && !([a, b].all (constantsAlone 8))
      | _, _ => false)
  | .aug i o e => (match dAug st with | some ((x, _), p, v, _) => decide (P.N[i]? = some x) && isLoc sc x && trE P sc e v && augIs o p | none => false)
  | .app i e => (match dMeth st with | some ((x, _), m, ap, a, cp, _) => decide (P.N[i]? = some x) && vis sc x && okName x && decide (m = ("append" : Str)) && noStar a && (ap.endLine == cp.line) && trE P sc e a | none => false)
  | .ext i e => (match dMeth st with | some ((x, _), m, ap, a, cp, _) => decide (P.N[i]? = some x) && vis sc x && okName x && decide (m = ("extend" : Str)) && noStar a && (ap.endLine == cp.line) && trE P sc e a | none => false)
  | .sto i ix e => (match dAsgS st with | some ((x, _), k, _, v, _) => decide (P.N[i]? = some x) && vis sc x && okName x && noSlice k && trE P sc ix k && trE P sc e v && !isLc v && !isTupE v | none => false)
  | .sto2 .. => false
  | .exp e => (match dExp st with | some (v, _) => trE P sc e v && isCall v | none => false)
  | .ret e => (match dRet st with | some (some v, _) => trE P sc e v | some (none, _) => (match e with | .non => true | _ => false) | none => false)
  | .ite c a b => (match dIf st with | some (ec, la, lb, _) => trE P sc c ec && trSs P sc a la && trSs P sc b lb | none => false)
  | .forr tg it body => (match dFor st with | some (et, ei, lb, _) => noSub tg && trT P.N sc tg et && trI P sc it (isTupT tg) ei && trSs P sc body lb | none => false)
  | .whl c body => (match dWhl st with | some (ec, lb, _) => trE P sc c ec && trSs P sc body lb | none => false)
  | .brk => (match st with | .Break _ => true | _ => false)
  | .cont => (match st with | .Continue _ => true | _ => false)
  | .pass => (match st with | .Pass _ => true | _ => false)
  | .raise k => (match dRaise st with | some ((x, _), _, _, _) => nmOf P.excs k x && gl sc x && okName x && P.plainX k | none => false)
  | .tryR body k s => (match dTry st with | some (lb, (x, _), (z, _, _), _, _, _) => trSs P sc body lb && nmOf P.excs k x && gl sc x && okName x && decide (z = Str.ofString s) | none => false)
  | .frz _ => false
def trSs (P : TrP) (sc : Scope) (ss : Sxs) (l : List Stmt) : Bool := match ss with
  | .nil => l.isEmpty
  | .cons s ss => if isFrz s then trSs P sc ss l else (match l with
    | e :: l => trS P sc s e && trSs P sc ss l
    | [] => false)
end
end Ev


set_option Elab.async false
set_option linter.all false
set_option maxRecDepth 100000
set_option maxHeartbeats 4000000
/-! Ev, part 6: what stands around; readings; calls. -/
namespace Ev
open PySem L2 PyProof.Rows
open PySem.W (Frag)

/-! ### defs that keep a promise, where nothing is being shown -/
structure FnG (P : Program) (w : World) (K : Frag) (mg : Str → Option Value) (base : Heap) (k : Nat) (f : Addr) (fd : FuncData) (ps : List Str) (sp : Sp) : Prop where
  len : ∀ vs H Q E, sp vs H Q E → vs.length = ps.length
  run : ∀ (A : Around) (outer : List Env) (s : Shared) (H : Hp) (args : Args) (us : List Value) (vs : List V) (Q : VK) (E : XK), Room k A → A.guards = some [] →
    Env0 P w K mg base A outer s H → BindsTo s fd args (ps.zip us) → Vals vs us → sp vs H Q E → codeAny (model P w) A (.call (.ref f) args) (CR (L2.CX P w) outer P w H s Q E) s
section
variable {X : Cx} {k : Nat} {f : Addr} {fd : FuncData} {ps : List Str} {sp : Sp} {Wx : WX} {x : Str} {p pos : Pos} {e : Expr} {es : List Expr} {t : TA}
theorem callG (F : FnG X.prog X.w X.K X.mg X.base k f fd ps sp) (hr : Room k X.A) (hgd : X.A.guards = some []) (hg : Gl X x) (hm : X.mg x = some (.ref f)) (hk : PySem.W.keepIn X.K (.ref f) = true) (hb : Binds X.K fd ps []) (tk : Takes X Wx)
    (ha : PA X (e :: es) t) (hdb : (x == ("__debug__" : Str)) = false) (he : starEach (e :: es) X.env = (false, eval e X.env) :: starEach es X.env) (hpl : (backTo pos (starEach es X.env)).any (·.1) = false) :
    PE X (.Call (.Name x p) (e :: es) [] pos) (tCallS sp (WE Wx) t) := by
  constructor
  intro pins s σ H Q I h
  refine wpAny_Call_Name_kw (ld_glob I hg hm ?_ hdb)
  refine PySem.W.callWith_K (h₀ := X.base) I.ok.mod.kin hk (thn (ha.run pos pins s σ H _ I h) fun us s1 ⟨vs, H1, I1, r, q⟩ => ⟨I1.kIn, ?_⟩) he hpl
  have hl : us.length = ps.length := by rw [← r.length]; exact F.len _ _ _ _ q
  have b := hb s1 us I1.kIn (by rw [List.append_nil]; exact hl)
  rw [List.append_nil] at b
  refine wpAny_call (codeAny_mono (F.run X.A X.stack s1 H1 ⟨us, []⟩ us vs Q _ hr hgd I1.env0 b r q) fun r s' hq => ?_)
  match r, hq with
  | .error z, hq => exact passAt tk σ pins H1 s1 z s' I1 hq
  | .ok (.ret u), hq => exact I1.after hq
  | .ok .next, hq => exact hq.elim
  | .ok .brk, hq => exact hq.elim
  | .ok .cont, hq => exact hq.elim
end
theorem fnG_of {P : Program} {w : World} {K : Frag} {mg : Str → Option Value} {base : Heap} {k : Nat} {f : Addr} {name qual : Str} {params : Arguments} {body : List Stmt} {scope : Scope} {dV kV doc pm cdv ct oc : Value} {an od : Option Addr}
    {osl : Array (Option Value)} {N ps : List Str} {sp : Sp} (lk : K.lookup f = some ⟨oc, od, .func (PySem.W.fnOf name qual params body scope dV kV doc pm an cdv ct), osl⟩) (hcd : PySem.W.codeIn K cdv qual = true) (S : FnScope N ps scope)
    (len : ∀ vs H Q E, sp vs H Q E → vs.length = ps.length)
    (hbody : ∀ (A : Around) (outer : List Env) (s : Shared) (H : Hp) (vs : List V) (Q : VK) (E : XK), Room k (A.deeper (envOfC qual scope s.heap.objs.size f cdv)) → A.guards = some [] → sp vs H Q E →
      ∃ t, PSs (cxOf (L2.CX P w) P w K mg base N qual scope f cdv A outer s H E) body t ∧ t { nx := fun _ H' => Q .non H', rt := Q } (L2.start N vs) H) :
    FnG P w K mg base (k + 1) f (PySem.W.fnOf name qual params body scope dV kV doc pm an cdv ct) ps sp := by
  constructor
  · exact len
  intro A outer s H args us vs Q E hr hgd e0 hb r hsp
  have KX : K.In s.heap := e0.mod.kin.keeps fun b o e => (e0.bs b o e).1
  have lim : s.heap.NoLimit := e0.mod.nolimit.keeps fun b o e => (e0.bs b o e).1
  have kinds : ∀ y ∈ ps.zip us, scope.names.lookup y.1 = some .local ∨ (scope.names.lookup y.1 = some .cell ∧ ((cellsFrom (s.heap.objs.size + 1) scope.names []).lookup y.1).isSome = true) := by
    rintro ⟨n, v⟩ hy
    exact (S.par n (List.of_mem_zip hy).1).imp id fun q => ⟨q, PySem.W.cellsFrom_some _ _ _ (.inl q)⟩
  refine codeAny_call_function hr.depth (KX _ _ lk) rfl S.co S.gen rfl (PySem.W.codeRec_of KX hcd) (hb _ _ _ _ (wpAny_newFunctionEnv_cells S.kind kinds fun env he s1 x => ?_))
  subst he
  refine ⟨lim.keeps x.toInCall.keep, codeAny_func ?_⟩
  obtain ⟨t, ht, hq⟩ := hbody A outer s H vs Q E (hr.deeper _) hgd hsp
  have I := inv_start (CX := L2.CX P w) (f := f) (cd := cdv) (qual := qual) (E := E) S hr.hd e0 (len _ _ _ _ hsp) r x
  refine wpAny_mono (ht.run [] s1 (L2.start N vs) H _ I hq) (fun fl s' hs => ?_) fun _ _ z => z
  match fl, hs with
  | .ret u, ⟨v, _, H', J, rv, q⟩ => exact ⟨v, H', J.os, J.bare, J.base, J.hok, rv, q⟩
  | .next, ⟨_, H', J, q⟩ => exact ⟨V.non, H', J.os, J.bare, J.base, J.hok, rfl, q⟩
  | .brk, ⟨_, _, _, q⟩ => exact q.elim
  | .cont, ⟨_, _, _, q⟩ => exact q.elim

/-! ### what a call of a def of the table promises -/
def prom (K : Frag) (ec : Nat → Value) (T : Tab) (d : Nat) (g : Nat) (fn : Fn) : Sp := fun ws H Q E =>
  ∃ (Z : Addr → Prop) (vs : List Dt), Len H ∧ (∀ a, Z a → ∃ xs, H a = some (.lst xs)) ∧ ws.length = fn.np ∧
    ((fn.io = false ∧ Reps K Z H vs ws ∧ (match T.call d g none vs with
      | .ok v _ => Out K Z H Q fn.fr v
      | .exc k => ∀ H', Same H H' → Len H' → E (ec k) none H'
      | .stuck => False)) ∨
    (fn.io = true ∧ ∃ (a : Addr) (wl r : List V) (xs : List Dt), ws = .ref a :: r ∧ H a = some (.lst wl) ∧ ¬ Z a ∧ Reps K (fun b => Z b ∨ b = a) H xs wl ∧ Reps K (fun b => Z b ∨ b = a) H vs r ∧ (match T.call d g (some xs) vs with
      | .ok v out => ∀ w H' wl', Kp (· = a) H H' → Len H' → H' a = some (.lst wl') → Reps K (fun b => Z b ∨ b = a) H' out wl' → Rep K (fun b => Z b ∨ b = a) H' v w →
          (fn.fr = true → ∀ us, v = .list us → ∃ p ws, w = .ref p ∧ H p = none ∧ H' p = some (.lst ws) ∧ Reps K (fun b => (Z b ∨ b = a) ∨ b = p) H' us ws ∧ Reps K (fun b => (Z b ∨ b = a) ∨ b = p) H' out wl') → Q w H'
      | _ => False)))

/-- an exception class of the module's own, as it is made -/
structure ExcOk (K : Frag) (mg : Str → Option Value) (u : Value) (n : String) : Prop where
  go : ∃ (C : Addr) (bmB : List Value) (B newId initId : String), u = .ref C ∧ ExcBaseFacts B newId initId bmB ∧ PySem.W.excIn K C bmB newId = true
  hm : mg (Str.ofString n) = some u
  hk : PySem.W.keepIn K u = true
  hs : PySem.W.subIn K u (.type "BaseException") = some true
  ht : PySem.W.typeIn K u = some (.type "type")
/-- what stands around a body of the table -/
structure Gd (X : Cx) (T : Tab) (d : Nat) (ec : Nat → Value) : Prop where
  calm : X.calm = true
  nd : X.N.Nodup
  gds : X.A.guards = some []
  room : Room d X.A
  blt : ∀ b ∈ ["len", "abs", "int", "sum", "all", "any", "min", "max", "sorted", "list", "tuple", "repr", "isinstance", "range", "zip", "enumerate", "bool", "str"], X.mg (Str.ofString b) = none
  glob : ∀ g v, T.glob g = some v → ∃ u w, X.mg (Str.ofString g) = some u ∧ RelV w u ∧ ∀ Z H, Rep X.K Z H v w
  fns : ∀ (g : Nat) fn, T.fns[g]? = some fn → ∃ (f : Addr) (fd : FuncData) (ps : List Str), X.mg (Str.ofString fn.name) = some (.ref f) ∧ PySem.W.keepIn X.K (.ref f) = true ∧ Binds X.K fd ps [] ∧
    FnG X.prog X.w X.K X.mg X.base d f fd ps (prom X.K ec T d g fn)
  xmk : ∀ (k : Nat) n, T.excs[k]? = some n → X.mg (Str.ofString n) = some (ec k) ∧ (T.plainX k = true → ExcOk X.K X.mg (ec k) n)
  exm : ∀ k k', k < T.excs.length → k' < T.excs.length → PySem.W.exmOne X.K (ec k) (ec k') = some (decide (k = k'))
theorem Gd.units {X : Cx} {T : Tab} {d : Nat} {ec : Nat → Value} (g : Gd X T d ec) : X.A.units + 200 < cLine := by have := g.room.un; omega

/-! ### readings -/
section
variable (K : Frag) (ec : Nat → Value) (Wx : WX) (W : Wd)
/-- an outcome's wish; H: where it began -/
def Sat {α : Type} (c : Cf) (σ : L2.St) (H : Hp) (r : Res (α × Frm)) (k : α → Frm → Prop) : Prop := match r with
  | .ok (a, f) => k a f
  | .exc e f => ∀ H', R K c H' σ f → Kp c.oa H H' → Wx (ec e) none σ H'
  | .stuck => False
def NewR (c : Cf) (H H' : Hp) (σ : L2.St) (f : Frm) (v : Dt) (w : V) : Prop :=
  ∀ us, v = .list us → ∃ p ws, w = .ref p ∧ H p = none ∧ H' p = some (.lst ws) ∧ Reps K (fun a => c.zo a ∨ a = p) H' us ws ∧ R K (c.plus p) H' σ f
def rdE (x : Ex) : TE := fun σ H Q => ∃ c f, R K c H σ f ∧ Sat K ec Wx c σ H (evE W x f) fun v f' =>
  ∀ w H', R K c H' σ f' → Kp c.oa H H' → Rep K c.zo H' v w → (isFr W x = true → NewR K c H H' σ f' v w) → Q w H'
def rdT (x : Ex) : TT := fun σ H Q => ∃ c f, R K c H σ f ∧ Sat K ec Wx c σ H (evE W x f) fun v f' =>
  ∃ b, v = .bool b ∧ ∀ H', R K c H' σ f' → Kp c.oa H H' → Q b H'
def RepP (c : Cf) (H : Hp) (σ : L2.St) (p : Pv) (w : V) : Prop := match p with
  | .v d => Rep K c.zo H d w
  | .o i => σ[i]? = some (some w)
def RepPs (c : Cf) (H : Hp) (σ : L2.St) : List Pv → List V → Prop
  | [], ws => ws = []
  | p :: ps, ws => ∃ w r, ws = w :: r ∧ RepP K c H σ p w ∧ RepPs c H σ ps r
def rdA (es : Exs) : TA := fun σ H Q => ∃ c f, R K c H σ f ∧ Sat K ec Wx c σ H (evPs W es f) fun ps f' =>
  ∀ ws H', R K c H' σ f' → Kp c.oa H H' → RepPs K c H' σ ps ws → Q ws H'
/-- what is walked, item by item, as long as it stands -/
def ItOk (Z : Addr → Prop) (J : It) (H : Hp) (items : List Dt) : Prop := ∀ (H2 : Hp) (Z2 : Addr → Prop), Kp Z H H2 → (∀ a, Z2 a → Z a ∨ H a = none) → Len H2 →
  (∀ (i : Nat) v, items[i]? = some v → J.go i H2 ∧ ∀ x H3, J.yld i H2 x H3 → Same H2 H3 ∧ Len H3 ∧ Rep K Z2 H3 v x) ∧ J.stop items.length H2
def rdI (it : Itx) : TI := fun σ H Rk => ∃ c f, R K c H σ f ∧ Sat K ec Wx c σ H (evI W it f) fun items f' =>
  ∀ J H', R K c H' σ f' → Kp c.oa H H' → items.length ≤ sizeLine → ItOk K c.zo J H' items → Rk J H'
end
section
variable {K : Frag} {ec : Nat → Value} {Wx : WX} {W : Wd} {c : Cf} {σ : L2.St} {H H1 : Hp}
theorem Sat.mono {α : Type} {r : Res (α × Frm)} {k k' : α → Frm → Prop} (h : Sat K ec Wx c σ H r k) (hk : ∀ a f, k a f → k' a f) : Sat K ec Wx c σ H r k' := by
  cases r with
  | ok p => exact hk _ _ h
  | exc e f => exact h
  | stuck => exact h
theorem Sat.bind {α β : Type} {r : Res (α × Frm)} {g : α × Frm → Res (β × Frm)} {k : β → Frm → Prop} (h : Sat K ec Wx c σ H (r.bind g) k) : Sat K ec Wx c σ H r fun a f => Sat K ec Wx c σ H (g (a, f)) k := by
  cases r with
  | ok p => exact h
  | exc e f => exact h
  | stuck => exact h
theorem Sat.move {α : Type} {r : Res (α × Frm)} {k : α → Frm → Prop} (h : Sat K ec Wx c σ H r k) (m : Kp c.oa H H1) : Sat K ec Wx c σ H1 r k := by
  cases r with
  | ok p => exact h
  | exc e f => exact fun H' r' k' => h H' r' (m.trans k' fun a z => .inl z)
  | stuck => exact h
theorem Sat.ofO {α : Type} {o : Option α} {f : Frm} {k : α → Frm → Prop} (h : Sat K ec Wx c σ H (Res.ofO o f) k) : ∃ a, o = some a ∧ k a f := by
  cases o with
  | none => exact h.elim
  | some a => exact ⟨a, rfl, h⟩
theorem Kp.zo {a : Cf} {H H' : Hp} (k : Kp a.oa H H') : Kp a.zo H H' := k.weak fun _ z => .inr z
theorem Rep.go {v : Dt} {w : V} (r : Rep K c.zo H v w) (k : Kp c.oa H H1) : Rep K c.zo H1 v w := Rep.keep k.zo (fun _ z => .inl z) _ _ r
theorem RepPs.go : ∀ {ps : List Pv} {ws : List V}, RepPs K c H σ ps ws → Kp c.oa H H1 → RepPs K c H1 σ ps ws
  | [], _, h, _ => h
  | p :: ps, _, ⟨w, r, e, h1, h2⟩, k => ⟨w, r, e, (match p, h1 with
    | .v d, h1 => Rep.go h1 k
    | .o i, h1 => h1), RepPs.go h2 k⟩
/-- data and own lists, as they stand at last -/
theorem RepPs.res {f : Frm} (r : R K c H σ f) : ∀ {ps : List Pv} {ws : List V} {vs : List Dt}, RepPs K c H σ ps ws → resolve f ps = some vs → RepTs K c.zo H vs ws
  | [], _, _, h, e => by
    simp only [resolve, Option.some.injEq] at e
    subst e
    exact h
  | .v d :: ps, _, _, ⟨w, rr, e, h1, h2⟩, q => by
    simp only [resolve, Option.map_eq_some_iff] at q
    obtain ⟨us, q, rfl⟩ := q
    exact ⟨w, rr, e, Rep.weak h1, RepPs.res r h2 q⟩
  | .o i :: ps, _, _, ⟨w, rr, e, h1, h2⟩, q => by
    simp only [resolve, Option.bind_eq_some_iff, Option.map_eq_some_iff] at q
    obtain ⟨xs, q1, us, q, rfl⟩ := q
    refine ⟨w, rr, e, ?_, RepPs.res r h2 q⟩
    unfold getO at q1
    split at q1
    · rename_i vs e1
      cases q1
      obtain ⟨a, wl, _, e2, e3, e4⟩ := r.own i _ e1
      have h1 : σ[i]? = some (some w) := h1
      rw [e2] at h1
      cases h1
      exact ⟨a, wl, rfl, .inl e3, e4⟩
    · cases q1
theorem RepPs.plain : ∀ {ps : List Pv} {ws : List V} {vs : List Dt}, RepPs K c H σ ps ws → Ev.plain ps = some vs → Reps K c.zo H vs ws
  | [], _, _, h, e => by
    simp only [Ev.plain, Option.some.injEq] at e
    subst e
    simp only [RepPs] at h
    simp only [Reps]
    exact h
  | .v d :: ps, _, _, ⟨w, rr, e, h1, h2⟩, q => by
    simp only [Ev.plain, Option.map_eq_some_iff] at q
    obtain ⟨us, q, rfl⟩ := q
    simp only [Reps]
    exact ⟨w, rr, e, h1, RepPs.plain h2 q⟩
  | .o i :: ps, _, _, _, q => by simp [Ev.plain] at q
end
end Ev


set_option Elab.async false
set_option linter.all false
set_option maxRecDepth 100000
set_option maxHeartbeats 4000000
/-! Ev, part 7: expressions. -/
namespace Ev
open PySem L2 PyProof.Rows
open PySem.W (Frag)

/-- one operand: an own list's place, or a datum -/
def evP (W : Wd) (e : Ex) (f : Frm) : Res (Pv × Frm) := match ownVar e f with
  | some i => .ok (.o i, f)
  | none => (evE W e f).bind fun x => .ok (.v x.1, x.2)
theorem evPs_cons (W : Wd) (e : Ex) (es : Exs) (f : Frm) : evPs W (.cons e es) f = (evP W e f).bind fun p => (evPs W es p.2).bind fun r => .ok (p.1 :: r.1, r.2) := by
  rw [evPs, evP]
  cases ownVar e f with
  | some i => rfl
  | none => cases evE W e f <;> rfl
theorem evPs_nil (W : Wd) (f : Frm) : evPs W .nil f = .ok ([], f) := by rw [evPs]
section
variable (K : Frag) (ec : Nat → Value) (Wx : WX) (W : Wd)
def rdP (x : Ex) : TE := fun σ H Q => ∃ c f, R K c H σ f ∧ Sat K ec Wx c σ H (evP W x f) fun p f' =>
  ∀ w H', R K c H' σ f' → Kp c.oa H H' → RepP K c H' σ p w → Q w H'
end
theorem _root_.L2.PE.weak {X : Cx} {e : Expr} {t t' : TE} (h : PE X e t) (i : ∀ σ H Q, t' σ H Q → t σ H Q) : PE X e t' := ⟨fun pins s σ H Q I q => h.run pins s σ H Q I (i _ _ _ q)⟩
theorem _root_.L2.PT.weak {X : Cx} {e : Expr} {t t' : TT} (h : PT X e t) (i : ∀ σ H Q, t' σ H Q → t σ H Q) : PT X e t' := ⟨fun pins s σ H Q I q => h.run pins s σ H Q I (i _ _ _ q)⟩
theorem _root_.L2.PA.weak {X : Cx} {e : List Expr} {t t' : TA} (h : PA X e t) (i : ∀ σ H Q, t' σ H Q → t σ H Q) : PA X e t' := ⟨fun pos pins s σ H Q I q => h.run pos pins s σ H Q I (i _ _ _ q)⟩
theorem star_cons {e : Expr} {es : List Expr} {env : Env} (h : noStar e = true) : starEach (e :: es) env = (false, eval e env) :: starEach es env := by
  cases e <;> first | rfl | cases h
theorem star_any {pos : Pos} {env : Env} : ∀ {es : List Expr}, es.all noStar = true → (backTo pos (starEach es env)).any (·.1) = false
  | [], _ => rfl
  | e :: es, h => by
    rw [List.all_cons, Bool.and_eq_true] at h
    rw [star_cons h.1]
    have ih := star_any (pos := pos) (env := env) h.2
    revert ih
    cases hs : starEach es env with
    | nil => intro _; rfl
    | cons x xs => intro ih; simpa [backTo] using ih
theorem getV_some {f : Frm} {i : Nat} {v : Dt} (h : getV f i = some v) : f[i]? = some (.val v) := by
  unfold getV at h
  split at h
  · rename_i e
    cases h
    exact e
  · cases h
theorem getO_some {f : Frm} {i : Nat} {v : List Dt} (h : getO f i = some v) : f[i]? = some (.own v) := by
  unfold getO at h
  split at h
  · rename_i e
    cases h
    exact e
  · cases h
theorem isOwn_some {f : Frm} {i : Nat} (h : isOwn f i = true) : ∃ v, f[i]? = some (.own v) := by
  unfold isOwn at h
  split at h
  · rename_i e
    exact ⟨_, e⟩
  · cases h
theorem ownVar_some {e : Ex} {f : Frm} {i : Nat} (h : ownVar e f = some i) : e = .var i ∧ ∃ v, f[i]? = some (.own v) := by
  unfold ownVar at h
  split at h
  · split at h
    · rename_i j hj
      cases h
      exact ⟨rfl, isOwn_some hj⟩
    · cases h
  · cases h
section
variable {X : Cx} {ec : Nat → Value} {Wx : WX} {W : Wd} {a b : Expr} {x y : Ex} {pos p : Pos}
/-- an expression that is no name -/
theorem rdP_of (h : PE X a (rdE X.K ec Wx W x)) (n : ∀ i, x ≠ .var i) : PE X a (rdP X.K ec Wx W x) := h.weak fun σ H Q q => by
  obtain ⟨c, f, r, q⟩ := q
  refine ⟨c, f, r, ?_⟩
  unfold evP at q
  rw [show ownVar x f = none from by unfold ownVar; cases x <;> first | rfl | exact absurd rfl (n _)] at q
  exact q.bind.mono fun v f' q w H' r' k rp _ => q w H' r' k rp
theorem rdP_var {i : Nat} (h : PE X a (tVar i)) : PE X a (rdP X.K ec Wx W (.var i)) := h.weak fun σ H Q q => by
  obtain ⟨c, f, r, q⟩ := q
  unfold evP at q
  cases e : ownVar (.var i) f with
  | some j =>
    obtain ⟨e1, vs, e2⟩ := ownVar_some e
    cases e1
    obtain ⟨p, ws, _, e4, _⟩ := r.own i vs e2
    rw [e] at q
    exact ⟨.ref p, e4, q _ _ r (Kp.refl _ _) e4⟩
  | none =>
    rw [e] at q
    have q := q.bind
    rw [evE] at q
    obtain ⟨v, e1, q⟩ := q.ofO
    obtain ⟨w, e2, e3⟩ := r.val i v (getV_some e1)
    exact ⟨w, e2, q w H r (Kp.refl _ _) e3⟩
theorem rdE_var {i : Nat} (h : PE X a (tVar i)) : PE X a (rdE X.K ec Wx W (.var i)) := h.weak fun σ H Q q => by
  obtain ⟨c, f, r, q⟩ := q
  rw [evE] at q
  obtain ⟨v, e1, q⟩ := q.ofO
  obtain ⟨w, e2, e3⟩ := r.val i v (getV_some e1)
  exact ⟨w, e2, q w H r (Kp.refl _ _) e3 (fun z => by cases z)⟩
/-- a constant's rule -/
theorem rdE_con {v : V} {d : Dt} (h : PE X a (tC v)) (he : ∀ f, evE W x f = .ok (d, f)) (hr : ∀ Z H, Rep X.K Z H d v) (hf : isFr W x = false) : PE X a (rdE X.K ec Wx W x) := h.weak fun σ H Q q => by
  obtain ⟨c, f, r, q⟩ := q
  rw [he] at q
  exact q v H r (Kp.refl _ _) (hr _ _) (fun z => by rw [hf] at z; cases z)

/-! ### operators -/
theorem Out.of_k {K : Frag} {c : Cf} {σ : L2.St} {f : Frm} {H H2 : Hp} {Q : VK} {v : Dt} {fr : Bool} (r : R K c H2 σ f) (k : Kp c.oa H H2)
    (q : ∀ w H', R K c H' σ f → Kp c.oa H H' → Rep K c.zo H' v w → (fr = true → NewR K c H H' σ f v w) → Q w H') : Out K c.zo H2 Q fr v := fun w H' sm l rp nw =>
  q w H' (r.same sm l) (k.trans (Kp.of_same sm) fun _ z => .inl z) rp fun hf us e => by
    obtain ⟨p, ws, e1, e2, e3, e4⟩ := nw hf us e
    exact ⟨p, ws, e1, k.free e2, e3, e4, r.plus sm l e2 e3⟩
theorem red1 {K : Frag} {o : Op} {σ : L2.St} {H : Hp} {Q : VK} (q : rdE K ec Wx W (.op o (.cons x .nil)) σ H Q) : rdP K ec Wx W x σ H fun w1 H1 => rO K o [w1] H1 Q := by
  obtain ⟨c, f, r, q⟩ := q
  rw [evE, evPs_cons] at q
  refine ⟨c, f, r, q.bind.bind.mono fun p f1 q w1 H1 r1 k1 rp1 => ?_⟩
  rw [evPs_nil] at q
  obtain ⟨v, e, q⟩ := Sat.ofO (show Sat K ec Wx c σ H (Res.ofO _ f1) _ from q)
  obtain ⟨vs, e1, e2⟩ := Option.bind_eq_some_iff.mp e
  refine ⟨c.zo, vs, v, r1.ln, fun a z => ?_, RepPs.res r1 (ps := [p]) ⟨w1, [], rfl, rp1, rfl⟩ e1, e2, Out.of_k r1 k1 q⟩
  obtain ⟨xs, e⟩ := r1.zoT z
  rw [e]; simp
theorem red2 {K : Frag} {o : Op} {σ : L2.St} {H : Hp} {Q : VK} (q : rdE K ec Wx W (.op o (.cons x (.cons y .nil))) σ H Q) :
    rdP K ec Wx W x σ H fun w1 H1 => rdP K ec Wx W y σ H1 fun w2 H2 => rO K o [w1, w2] H2 Q := by
  obtain ⟨c, f, r, q⟩ := q
  rw [evE, evPs_cons] at q
  refine ⟨c, f, r, q.bind.bind.mono fun p f1 q w1 H1 r1 k1 rp1 => ⟨c, f1, r1, ?_⟩⟩
  rw [evPs_cons] at q
  refine (show Sat K ec Wx c σ H1 ((evP W y f1).bind _) _ from q.bind.move k1).bind.mono fun p2 f2 q w2 H2 r2 k2 rp2 => ?_
  rw [evPs_nil] at q
  obtain ⟨v, e, q⟩ := Sat.ofO (show Sat K ec Wx c σ H (Res.ofO _ f2) _ from q)
  obtain ⟨vs, e1, e2⟩ := Option.bind_eq_some_iff.mp e
  have rp1 : RepPs K c H2 σ [p] [w1] := RepPs.go (ps := [p]) ⟨w1, [], rfl, rp1, rfl⟩ k2
  obtain ⟨_, _, ee, rp1, _⟩ := rp1
  cases ee
  refine ⟨c.zo, vs, v, r2.ln, fun a z => ?_, RepPs.res r2 (ps := [p, p2]) ⟨w1, [w2], rfl, rp1, w2, [], rfl, rp2, rfl⟩ e1, e2, Out.of_k r2 (k1.trans k2 fun _ z => .inl z) q⟩
  obtain ⟨xs, e⟩ := r2.zoT z
  rw [e]; simp
theorem opBin {o : Op} {po : Operator} (hx : PE X a (rdP X.K ec Wx W x)) (hy : PE X b (rdP X.K ec Wx W y)) (ho : OpR X (binaryOp po) (fun x y H Q => rO X.K o [x, y] H Q)) :
    PE X (.BinOp a po b pos) (rdE X.K ec Wx W (.op o (.cons x (.cons y .nil)))) := (pe_op ho hx hy).weak fun _ _ _ q => red2 q
theorem opCmpE {o : Op} {po : CmpOp} (hx : PE X a (rdP X.K ec Wx W x)) (hy : PE X b (rdP X.K ec Wx W y)) (ho : OpR X (compareOp po) (fun x y H Q => rO X.K o [x, y] H Q)) (hm : behindInMarks po b = false) :
    PE X (.Compare a [po] [b] pos) (rdE X.K ec Wx W (.op o (.cons x (.cons y .nil)))) := (pe_cmpR ho hx hy hm).weak fun _ _ _ q => red2 q
/-- as a test -/
theorem toTest {t : TE} {K : Frag} {σ : L2.St} {H : Hp} {Q : Bool → Hp → Prop} (q : rdT K ec Wx W x σ H Q) : rdE K ec Wx W x σ H fun w H' => ∃ k, w = .bl k ∧ Q k H' := by
  obtain ⟨c, f, r, q⟩ := q
  refine ⟨c, f, r, q.mono fun v f' q w H' r' k' rp _ => ?_⟩
  obtain ⟨b, rfl, q⟩ := q
  simp only [Rep] at rp
  exact ⟨b, rp, q H' r' k'⟩
theorem opCmpT {o : Op} {po : CmpOp} (hx : PE X a (rdP X.K ec Wx W x)) (hy : PE X b (rdP X.K ec Wx W y)) (ho : OpR X (compareOp po) (fun x y H Q => rO X.K o [x, y] H Q)) (hm : behindInMarks po b = false) :
    PT X (.Compare a [po] [b] pos) (rdT X.K ec Wx W (.op o (.cons x (.cons y .nil)))) := (pt_cmpR ho hx hy hm).weak fun _ _ _ q => red2 (toTest (t := tVar 0) q)
theorem testPlain {e : Expr} (h : PE X e (rdE X.K ec Wx W x)) (hp : plainTest e = true) : PT X e (rdT X.K ec Wx W x) := by
  refine (pt_val h fun whole => ?_).weak fun σ H Q q => toTest (t := tVar 0) q
  cases e with
  | UnaryOp op e pos => cases op <;> first | rfl | cases hp
  | BoolOp _ _ _ => cases hp
  | IfExp _ _ _ _ => cases hp
  | Compare _ _ _ _ => cases hp
  | _ => rfl
/-- a built-in function of one argument -/
theorem call1 {o : Op} {n : Str} {id : String} (hg : Gl X n) (hm : X.mg n = none) (hv : bootBuiltins n = some (.builtin id)) (hn : n ≠ "__name__") (hd : (n == ("__debug__" : Str)) = false) (hx : PE X a (rdP X.K ec Wx W x)) (hs : noStar a = true)
    (hc : CallR X (.builtin id) (fun xs H Q => rO X.K o xs H Q)) : PE X (.Call (.Name n p) [a] [] pos) (rdE X.K ec Wx W (.op o (.cons x .nil))) :=
  (pe_callB hc hg hm hv (pa_cons hx pa_nil (star_cons hs)) hn hd (star_cons hs) rfl).weak fun _ _ _ q => red1 q
theorem call1T {o : Op} {n : Str} {id : String} (hg : Gl X n) (hm : X.mg n = none) (hv : bootBuiltins n = some (.type id)) (hn : n ≠ "__name__") (hd : (n == ("__debug__" : Str)) = false) (hx : PE X a (rdP X.K ec Wx W x)) (hs : noStar a = true)
    (hc : CallR X (.type id) (fun xs H Q => rO X.K o xs H Q)) : PE X (.Call (.Name n p) [a] [] pos) (rdE X.K ec Wx W (.op o (.cons x .nil))) :=
  (pe_callTy hc hg hm hv (pa_cons hx pa_nil (star_cons hs)) hn hd (star_cons hs) rfl).weak fun _ _ _ q => red1 q
theorem call2 {o : Op} {n : Str} {id : String} (hg : Gl X n) (hm : X.mg n = none) (hv : bootBuiltins n = some (.builtin id)) (hn : n ≠ "__name__") (hd : (n == ("__debug__" : Str)) = false) (hx : PE X a (rdP X.K ec Wx W x)) (hy : PE X b (rdP X.K ec Wx W y))
    (hs : noStar a = true) (hs2 : noStar b = true) (hc : CallR X (.builtin id) (fun xs H Q => rO X.K o xs H Q)) : PE X (.Call (.Name n p) [a, b] [] pos) (rdE X.K ec Wx W (.op o (.cons x (.cons y .nil)))) :=
  (pe_callB hc hg hm hv (pa_cons hx (pa_cons hy pa_nil (star_cons hs2)) (star_cons hs)) hn hd (star_cons hs) (star_any (by simp [hs2]))).weak fun _ _ _ q => red2 q
theorem callIs {t : String} {n m : Str} {p2 : Pos} (hg : Gl X n) (hm : X.mg n = none) (hv : bootBuiltins n = some (.builtin "isinstance")) (hn : n ≠ "__name__") (hd : (n == ("__debug__" : Str)) = false)
    (hg2 : Gl X m) (hm2 : X.mg m = none) (hv2 : bootBuiltins m = some (.type t)) (hn2 : m ≠ "__name__") (hd2 : (m == ("__debug__" : Str)) = false) (hx : PE X a (rdP X.K ec Wx W x)) (hs : noStar a = true) :
    PE X (.Call (.Name n p) [a, .Name m p2] [] pos) (rdE X.K ec Wx W (.op (.isI t) (.cons x .nil))) :=
  (pe_callB (cr_isI t) hg hm hv (pa_cons hx (pa_cons (pe_bltn (v := .ty t) hg2 hm2 hv2 rfl hn2 hd2) pa_nil) (star_cons hs)) hn hd (star_cons hs) rfl).weak fun σ H Q q => by
    obtain ⟨c, f, r, q⟩ := red1 q
    exact ⟨c, f, r, q.mono fun p f' q w H' r' k' rp => ⟨w, rfl, q w H' r' k' rp⟩⟩
theorem callIs2 {t u : String} {n m l : Str} {p2 p3 p4 : Pos} {kk : Nat} (hg : Gl X n) (hm : X.mg n = none) (hv : bootBuiltins n = some (.builtin "isinstance")) (hn : n ≠ "__name__") (hd : (n == ("__debug__" : Str)) = false)
    (hg2 : Gl X m) (hm2 : X.mg m = none) (hv2 : bootBuiltins m = some (.type t)) (hn2 : m ≠ "__name__") (hd2 : (m == ("__debug__" : Str)) = false)
    (hg3 : Gl X l) (hm3 : X.mg l = none) (hv3 : bootBuiltins l = some (.type u)) (hn3 : l ≠ "__name__") (hd3 : (l == ("__debug__" : Str)) = false) (hx : PE X a (rdP X.K ec Wx W x)) (hs : noStar a = true) :
    PE X (.Call (.Name n p) [a, .Tuple [.Name m p2, .Name l p3] kk p4] [] pos) (rdE X.K ec Wx W (.op (.isI2 t u) (.cons x .nil))) :=
  (pe_callB (cr_isI2 t u) hg hm hv (pa_cons hx (pa_cons (pe_tup (pa_cons (pe_bltn (v := .ty t) hg2 hm2 hv2 rfl hn2 hd2) (pa_cons (pe_bltn (v := .ty u) hg3 hm3 hv3 rfl hn3 hd3) pa_nil))) pa_nil) (star_cons hs)) hn hd (star_cons hs) rfl).weak fun σ H Q q => by
    obtain ⟨c, f, r, q⟩ := red1 q
    refine ⟨c, f, r, q.mono fun pv f' q w H' r' k' rp => ⟨by show 2 ≤ sizeLine; decide, fun p hp => ⟨w, p, rfl, upd_same, ?_⟩⟩⟩
    have q := q w H' r' k' rp
    obtain ⟨Z, ds, v, l, zt, rs, e, q⟩ := q
    have sm : Same H' (upd H' p (.tup [.ty t, .ty u])) := Same.upd hp
    have ln : Len (upd H' p (.tup [.ty t, .ty u])) := l.upd fun xs e => by
      rcases e with e | e
      · cases e
      · cases e; show 2 ≤ sizeLine; decide
    match ds, rs, e with
    | [d], rs, e =>
      obtain ⟨w', r', ew, rw', er⟩ := rs
      cases ew
      refine ⟨Z, [d], v, ln, fun a z => ?_, ⟨w, [], rfl, ?_, rfl⟩, e, fun w2 H2 s2 l2 rp2 nw => ?_⟩
      · have := zt a z
        cases h : H' a with
        | none => exact absurd h this
        | some o => rw [sm a o h]; simp
      · cases d with
        | list vs =>
          obtain ⟨a, ws, e1, e2, e3⟩ := rw'
          refine ⟨a, ws, e1, ?_, Reps.keep (Kp.of_same sm) (fun _ z => .inl z) _ _ e3⟩
          rcases e2 with e2 | ⟨o, e2⟩ | e2
          · exact .inl (sm _ _ e2)
          · exact .inr (.inl ⟨o, sm _ _ e2⟩)
          · exact .inr (.inr e2)
        | none => exact Rep.keep (Kp.of_same sm) (fun _ z => .inl z) _ _ rw'
        | bool _ => exact Rep.keep (Kp.of_same sm) (fun _ z => .inl z) _ _ rw'
        | int _ => exact Rep.keep (Kp.of_same sm) (fun _ z => .inl z) _ _ rw'
        | str _ => exact Rep.keep (Kp.of_same sm) (fun _ z => .inl z) _ _ rw'
        | tuple _ => exact Rep.keep (Kp.of_same sm) (fun _ z => .inl z) _ _ rw'
        | dict _ => exact Rep.keep (Kp.of_same sm) (fun _ z => .inl z) _ _ rw'
      · exact q w2 H2 (sm.trans s2) l2 rp2 fun hf => by cases hf
    | [], rs, e => cases e
    | [_, _], rs, e => simp [evOp] at e
    | _ :: _ :: _ :: _, rs, e => cases e
end
end Ev


set_option Elab.async false
set_option linter.all false
set_option maxRecDepth 100000
set_option maxHeartbeats 4000000
/-! Ev, part 8: expressions, further; what is walked. -/
namespace Ev
open PySem L2 PyProof.Rows
open PySem.W (Frag)

section
variable {X : Cx} {ec : Nat → Value} {Wx : WX} {W : Wd} {a b c' : Expr} {x y z : Ex} {pos p : Pos} {rest : List Expr}
theorem and_E (hx : PE X a (rdE X.K ec Wx W x)) (hy : PE X (.BoolOp .And (b :: rest) pos) (rdE X.K ec Wx W y)) : PE X (.BoolOp .And (a :: b :: rest) pos) (rdE X.K ec Wx W (.and x y)) :=
  (pe_and hx hy).weak fun σ H Q q => by
    obtain ⟨c, f, r, q⟩ := q
    rw [evE] at q
    refine ⟨c, f, r, q.bind.mono fun v f1 q w H1 r1 k1 rp _ => ?_⟩
    cases v with
    | bool t =>
      simp only [Rep] at rp
      refine ⟨t, rp, ?_⟩
      cases t with
      | true =>
        refine iteT ⟨c, f1, r1, (Sat.move q k1).mono fun v f2 q w H2 r2 k2 rp2 nw => q w H2 r2 (k1.trans k2 fun _ z => .inl z) rp2 (fun z => by cases z)⟩
      | false => exact iteF (q (.bl false) H1 r1 k1 (by simp only [Rep]) (fun z => by cases z))
    | none => exact q.elim
    | int _ => exact q.elim
    | str _ => exact q.elim
    | list _ => exact q.elim
    | tuple _ => exact q.elim
    | dict _ => exact q.elim
theorem or_E (hx : PE X a (rdE X.K ec Wx W x)) (hy : PE X (.BoolOp .Or (b :: rest) pos) (rdE X.K ec Wx W y)) : PE X (.BoolOp .Or (a :: b :: rest) pos) (rdE X.K ec Wx W (.or x y)) :=
  (pe_or hx hy).weak fun σ H Q q => by
    obtain ⟨c, f, r, q⟩ := q
    rw [evE] at q
    refine ⟨c, f, r, q.bind.mono fun v f1 q w H1 r1 k1 rp _ => ?_⟩
    cases v with
    | bool t =>
      simp only [Rep] at rp
      refine ⟨t, rp, ?_⟩
      cases t with
      | false =>
        refine iteF ⟨c, f1, r1, (Sat.move q k1).mono fun v f2 q w H2 r2 k2 rp2 nw => q w H2 r2 (k1.trans k2 fun _ z => .inl z) rp2 (fun z => by cases z)⟩
      | true => exact iteT (q (.bl true) H1 r1 k1 (by simp only [Rep]) (fun z => by cases z))
    | none => exact q.elim
    | int _ => exact q.elim
    | str _ => exact q.elim
    | list _ => exact q.elim
    | tuple _ => exact q.elim
    | dict _ => exact q.elim
theorem rd_one {K : Frag} {σ : L2.St} {H : Hp} {Q : VK} (q : rdE K ec Wx W (.one x) σ H Q) : rdE K ec Wx W x σ H Q := by
  obtain ⟨c, f, r, q⟩ := q
  rw [evE] at q
  exact ⟨c, f, r, q.mono fun v f1 q w H1 r1 k1 rp _ => q w H1 r1 k1 rp (fun z => by cases z)⟩
theorem one_E {op : BoolOp} (hx : PE X a (rdE X.K ec Wx W x)) : PE X (.BoolOp op [a] pos) (rdE X.K ec Wx W (.one x)) := (pe_one hx).weak fun _ _ _ q => rd_one q
theorem not_E (hx : PE X a (rdE X.K ec Wx W x)) : PE X (.UnaryOp .Not a pos) (rdE X.K ec Wx W (.not x)) := (pe_not hx).weak fun σ H Q q => by
  obtain ⟨c, f, r, q⟩ := q
  rw [evE] at q
  refine ⟨c, f, r, q.bind.mono fun v f1 q w H1 r1 k1 rp _ => ?_⟩
  cases v with
  | bool t =>
    simp only [Rep] at rp
    exact ⟨t, rp, q _ H1 r1 k1 (by simp only [Rep]) (fun z => by cases z)⟩
  | none => exact q.elim
  | int _ => exact q.elim
  | str _ => exact q.elim
  | list _ => exact q.elim
  | tuple _ => exact q.elim
  | dict _ => exact q.elim
theorem ife_E (hc : PT X c' (rdT X.K ec Wx W z)) (hx : PE X a (rdE X.K ec Wx W x)) (hy : PE X b (rdE X.K ec Wx W y)) : PE X (.IfExp c' a b pos) (rdE X.K ec Wx W (.ife z x y)) :=
  (pe_ifExp hc hx hy).weak fun σ H Q q => by
    obtain ⟨c, f, r, q⟩ := q
    rw [evE] at q
    refine ⟨c, f, r, q.bind.mono fun v f1 q => ?_⟩
    cases v with
    | bool t =>
      refine ⟨t, rfl, fun H1 r1 k1 => ?_⟩
      cases t with
      | true => exact iteT ⟨c, f1, r1, (Sat.move q k1).mono fun v f2 q w H2 r2 k2 rp2 nw => q w H2 r2 (k1.trans k2 fun _ z => .inl z) rp2 (fun z => by cases z)⟩
      | false => exact iteF ⟨c, f1, r1, (Sat.move q k1).mono fun v f2 q w H2 r2 k2 rp2 nw => q w H2 r2 (k1.trans k2 fun _ z => .inl z) rp2 (fun z => by cases z)⟩
    | none => exact q.elim
    | int _ => exact q.elim
    | str _ => exact q.elim
    | list _ => exact q.elim
    | tuple _ => exact q.elim
    | dict _ => exact q.elim
/-! ### tests -/
theorem and_T (hx : PT X a (rdT X.K ec Wx W x)) (hy : PT X (.BoolOp .And (b :: rest) pos) (rdT X.K ec Wx W y)) : PT X (.BoolOp .And (a :: b :: rest) pos) (rdT X.K ec Wx W (.and x y)) :=
  (pw_and hx (show PW X (.BoolOp .And (b :: rest) pos) _ from ⟨fun whole => hy.run⟩)).pt.weak fun σ H Q q => by
    obtain ⟨c, f, r, q⟩ := q
    rw [evE] at q
    refine ⟨c, f, r, q.bind.mono fun v f1 q => ?_⟩
    cases v with
    | bool t =>
      refine ⟨t, rfl, fun H1 r1 k1 => ?_⟩
      cases t with
      | true => exact iteT ⟨c, f1, r1, (Sat.move q k1).mono fun v f2 q => by
          obtain ⟨b, e, q⟩ := q
          exact ⟨b, e, fun H2 r2 k2 => q H2 r2 (k1.trans k2 fun _ z => .inl z)⟩⟩
      | false =>
        obtain ⟨b, e, q⟩ := q
        cases e
        exact iteF (q H1 r1 k1)
    | none => exact q.elim
    | int _ => exact q.elim
    | str _ => exact q.elim
    | list _ => exact q.elim
    | tuple _ => exact q.elim
    | dict _ => exact q.elim
theorem or_T (hx : PT X a (rdT X.K ec Wx W x)) (hy : PT X (.BoolOp .Or (b :: rest) pos) (rdT X.K ec Wx W y)) : PT X (.BoolOp .Or (a :: b :: rest) pos) (rdT X.K ec Wx W (.or x y)) :=
  (pw_or hx (show PW X (.BoolOp .Or (b :: rest) pos) _ from ⟨fun whole => hy.run⟩)).pt.weak fun σ H Q q => by
    obtain ⟨c, f, r, q⟩ := q
    rw [evE] at q
    refine ⟨c, f, r, q.bind.mono fun v f1 q => ?_⟩
    cases v with
    | bool t =>
      refine ⟨t, rfl, fun H1 r1 k1 => ?_⟩
      cases t with
      | false => exact iteF ⟨c, f1, r1, (Sat.move q k1).mono fun v f2 q => by
          obtain ⟨b, e, q⟩ := q
          exact ⟨b, e, fun H2 r2 k2 => q H2 r2 (k1.trans k2 fun _ z => .inl z)⟩⟩
      | true =>
        obtain ⟨b, e, q⟩ := q
        cases e
        exact iteT (q H1 r1 k1)
    | none => exact q.elim
    | int _ => exact q.elim
    | str _ => exact q.elim
    | list _ => exact q.elim
    | tuple _ => exact q.elim
    | dict _ => exact q.elim
theorem rdT_one {K : Frag} {σ : L2.St} {H : Hp} {Q : Bool → Hp → Prop} (q : rdT K ec Wx W (.one x) σ H Q) : rdT K ec Wx W x σ H Q := by
  obtain ⟨c, f, r, q⟩ := q
  rw [evE] at q
  exact ⟨c, f, r, q⟩
theorem one_T {op : BoolOp} (hx : PT X a (rdT X.K ec Wx W x)) : PT X (.BoolOp op [a] pos) (rdT X.K ec Wx W (.one x)) := by
  cases op with
  | And => exact (pw_and1 hx).pt.weak fun _ _ _ q => rdT_one q
  | Or => exact (pw_or1 hx).pt.weak fun _ _ _ q => rdT_one q
theorem not_T (hx : PT X a (rdT X.K ec Wx W x)) : PT X (.UnaryOp .Not a pos) (rdT X.K ec Wx W (.not x)) := (pt_not hx).weak fun σ H Q q => by
  obtain ⟨c, f, r, q⟩ := q
  rw [evE] at q
  refine ⟨c, f, r, q.bind.mono fun v f1 q => ?_⟩
  cases v with
  | bool t =>
    obtain ⟨b, e, q⟩ := q
    cases e
    exact ⟨t, rfl, q⟩
  | none => exact q.elim
  | int _ => exact q.elim
  | str _ => exact q.elim
  | list _ => exact q.elim
  | tuple _ => exact q.elim
  | dict _ => exact q.elim
theorem ife_T (hc : PT X c' (rdT X.K ec Wx W z)) (hx : PT X a (rdT X.K ec Wx W x)) (hy : PT X b (rdT X.K ec Wx W y)) : PT X (.IfExp c' a b pos) (rdT X.K ec Wx W (.ife z x y)) := by
  constructor
  intro pins s σ H Q I q
  obtain ⟨c, f, r, q⟩ := q
  rw [evE] at q
  show wpAny _ _ (do if ← isTrue c' X.env (eval c' X.env) then isTrue a X.env (eval a X.env) else isTrue b X.env (eval b X.env)) _ _ _
  refine wpAny_bind (thn (hc.run pins s σ H (fun t H1 => if t = true then rdT X.K ec Wx W x σ H1 Q else rdT X.K ec Wx W y σ H1 Q) I ⟨c, f, r, q.bind.mono fun v f1 q => ?_⟩) fun t s1 ⟨H1, I1, q1⟩ => ?_)
  · cases v with
    | bool t =>
      refine ⟨t, rfl, fun H1 r1 k1 => ?_⟩
      cases t with
      | true => exact iteT ⟨c, f1, r1, (Sat.move q k1).mono fun v f2 q => by
          obtain ⟨b, e, q⟩ := q
          exact ⟨b, e, fun H2 r2 k2 => q H2 r2 (k1.trans k2 fun _ z => .inl z)⟩⟩
      | false => exact iteF ⟨c, f1, r1, (Sat.move q k1).mono fun v f2 q => by
          obtain ⟨b, e, q⟩ := q
          exact ⟨b, e, fun H2 r2 k2 => q H2 r2 (k1.trans k2 fun _ z => .inl z)⟩⟩
    | none => exact q.elim
    | int _ => exact q.elim
    | str _ => exact q.elim
    | list _ => exact q.elim
    | tuple _ => exact q.elim
    | dict _ => exact q.elim
  · cases t with
    | true => exact hx.run pins s1 σ H1 Q I1 q1
    | false => exact hy.run pins s1 σ H1 Q I1 q1
/-! ### two comparisons in a row -/
theorem chain_red {o o2 : Op} {K : Frag} {σ : L2.St} {H : Hp} {Q : VK} (q : rdE K ec Wx W (.chain o o2 x y z) σ H Q) :
    tChain (fun x y H Q => rO K o [x, y] H Q) (fun x y H Q => rO K o2 [x, y] H Q) (rdE K ec Wx W x) (rdE K ec Wx W y) (rdE K ec Wx W z) σ H Q := by
  obtain ⟨c, f, r, q⟩ := q
  rw [evE] at q
  refine ⟨c, f, r, q.bind.mono fun v1 f1 q w1 H1 r1 k1 rp1 _ => ⟨c, f1, r1, ((Sat.move q k1).bind).mono fun v2 f2 q w2 H2 r2 k2 rp2 _ => ?_⟩⟩
  have rp1 := rp1.go k2
  have k12 := k1.trans k2 fun _ z => .inl z
  have zt : ∀ a, c.zo a → H2 a ≠ none := fun a z => by
    obtain ⟨xs, e⟩ := r2.zoT z
    rw [e]; simp
  dsimp only at q
  split at q
  · rename_i i e0 e1
    refine ⟨c.zo, [v1, _], .bool true, r2.ln, zt, ⟨w1, [w2], rfl, rp1.weak, w2, [], rfl, rp2.weak, rfl⟩, e1, fun w H' sm l rp nw => ⟨true, by simpa only [Rep] using rp, ?_⟩⟩
    have r3 := r2.same sm l
    have k3 : Kp c.oa H H' := k12.trans (Kp.of_same (Y := c.oa) sm) fun _ z => .inl z
    have k3' : Kp c.oa H1 H' := k2.trans (Kp.of_same (Y := c.oa) sm) fun _ z => .inl z
    refine iteT ⟨c, f2, r3, ((Sat.move q k3')).bind.mono fun v4 f4 q w4 H4 r4 k4 rp4 _ => ?_⟩
    obtain ⟨d, e3, q⟩ := Sat.ofO q
    have rp2' : Rep K c.zo H4 _ w2 := (Rep.keep (Kp.of_same (Y := c.zo) sm) (fun _ z => .inl z) _ _ rp2).go k4
    refine ⟨c.zo, [_, v4], d, r4.ln, fun a z => ?_, ⟨w2, [w4], rfl, rp2'.weak, w4, [], rfl, rp4.weak, rfl⟩, e3, Out.of_k (H := H) r4 (k3.trans k4 fun _ z => .inl z) fun w H' r' k' rp nw => ?_⟩
    · obtain ⟨xs, e⟩ := r4.zoT z
      rw [e]; simp
    · exact q w H' r' k' rp (fun z => by cases z)
  · rename_i e0 e1
    refine ⟨c.zo, [v1, _], .bool false, r2.ln, zt, ⟨w1, [w2], rfl, rp1.weak, w2, [], rfl, rp2.weak, rfl⟩, e1, fun w H' sm l rp nw => ⟨false, by simpa only [Rep] using rp, iteF ?_⟩⟩
    exact q _ _ (r2.same sm l) (k12.trans (Kp.of_same (Y := c.oa) sm) fun _ z => .inl z) (by simp only [Rep]) (fun z => by cases z)
  · exact q.elim
theorem ch_rule {o : Op} {po : CmpOp} (h : chOp o po = true) : OpR X (compareOp po) (fun x y H Q => rO X.K o [x, y] H Q) ∧ (po == CmpOp.In) = false ∧ (po == CmpOp.NotIn) = false := by
  unfold chOp at h
  split at h
  · exact ⟨or_lt, rfl, rfl⟩
  · exact ⟨or_le, rfl, rfl⟩
  · exact ⟨or_gt, rfl, rfl⟩
  · exact ⟨or_ge, rfl, rfl⟩
  · cases h
theorem nolast {po po2 : CmpOp} {b c : Expr} (h1 : (po2 == CmpOp.In) = false) (h2 : (po2 == CmpOp.NotIn) = false) : lastMarks [po, po2] [b, c] = false := by
  show behindInMarks po2 c = false
  cases c <;> simp [behindInMarks, h1, h2]
theorem chain_E {o o2 : Op} {po po2 : CmpOp} (h1 : chOp o po = true) (h2 : chOp o2 po2 = true) (hx : PE X a (rdE X.K ec Wx W x)) (hy : PE X b (rdE X.K ec Wx W y)) (hz : PE X c' (rdE X.K ec Wx W z)) :
    PE X (.Compare a [po, po2] [b, c'] pos) (rdE X.K ec Wx W (.chain o o2 x y z)) := by
  obtain ⟨r1, _, _⟩ := ch_rule (X := X) h1
  obtain ⟨r2, e1, e2⟩ := ch_rule (X := X) h2
  exact (pe_chain r1 r2 hx hy hz (nolast e1 e2)).weak fun _ _ _ q => chain_red q
theorem chain_T {o o2 : Op} {po po2 : CmpOp} (h1 : chOp o po = true) (h2 : chOp o2 po2 = true) (hx : PE X a (rdE X.K ec Wx W x)) (hy : PE X b (rdE X.K ec Wx W y)) (hz : PE X c' (rdE X.K ec Wx W z)) :
    PT X (.Compare a [po, po2] [b, c'] pos) (rdT X.K ec Wx W (.chain o o2 x y z)) := by
  obtain ⟨r1, _, _⟩ := ch_rule (X := X) h1
  obtain ⟨r2, e1, e2⟩ := ch_rule (X := X) h2
  exact (pt_chain r1 r2 hx hy hz (nolast e1 e2)).weak fun _ _ _ q => chain_red (toTest (t := tVar 0) q)
/-! ### displays -/
theorem RepPs.len {K : Frag} {c : Cf} {H : Hp} {σ : L2.St} : ∀ {ps : List Pv} {ws : List V}, RepPs K c H σ ps ws → ws.length = ps.length
  | [], _, h => by rw [show _ = [] from h]; rfl
  | p :: ps, _, ⟨w, r, e, _, h2⟩ => by subst e; show r.length + 1 = _; rw [RepPs.len h2]; rfl
theorem plain_len : ∀ {ps : List Pv} {vs : List Dt}, plain ps = some vs → vs.length = ps.length
  | [], _, e => by simp only [plain, Option.some.injEq] at e; subst e; rfl
  | .v d :: ps, _, e => by
    simp only [plain, Option.map_eq_some_iff] at e
    obtain ⟨us, e, rfl⟩ := e
    show us.length + 1 = _
    rw [plain_len e]; rfl
  | .o i :: ps, _, e => by simp [plain] at e
def Exs.len : Exs → Nat
  | .nil => 0
  | .cons _ es => es.len + 1
theorem trEs_len {P : TrP} {sc : Scope} : ∀ {es : Exs} {l : List Expr}, trEs P sc es l = true → l.length = es.len
  | .nil, [], _ => rfl
  | .nil, _ :: _, h => by simp [trEs] at h
  | .cons _ _, [], h => by simp [trEs] at h
  | .cons x es, e :: l, h => by
    simp only [trEs, Bool.and_eq_true] at h
    show l.length + 1 = es.len + 1
    rw [trEs_len h.2]
theorem evPs_len : ∀ {es : Exs} {f : Frm} {ps : List Pv} {g : Frm}, evPs W es f = .ok (ps, g) → ps.length = es.len
  | .nil, f, ps, g, h => by rw [evPs_nil] at h; cases h; rfl
  | .cons x es, f, ps, g, h => by
    rw [evPs_cons] at h
    cases e : evP W x f with
    | stuck => rw [e] at h; cases h
    | exc k f => rw [e] at h; cases h
    | ok p =>
      rw [e] at h
      cases e2 : evPs W es p.2 with
      | stuck => simp only [Res.bind, e2] at h; cases h
      | exc k f => simp only [Res.bind, e2] at h; cases h
      | ok q =>
        simp only [Res.bind, e2] at h
        cases h
        show q.1.length + 1 = es.len + 1
        rw [evPs_len e2]
theorem line1000 {n : Nat} (h : n ≤ 1000) : n ≤ sizeLine := Nat.le_of_lt (small1000 h)
theorem Sat.val {α : Type} {K : Frag} {c : Cf} {σ : L2.St} {H : Hp} {r : Res (α × Frm)} {k : α → Frm → Prop} (h : Sat K ec Wx c σ H r k) : Sat K ec Wx c σ H r fun a f => r = .ok (a, f) ∧ k a f := by
  cases r with
  | ok p => exact ⟨rfl, h⟩
  | exc e f => exact h
  | stuck => exact h
theorem tup_E {es : Exs} {l : List Expr} {kk : Nat} (h : PA X l (rdA X.K ec Wx W es)) (hl : es.len ≤ 1000) : PE X (.Tuple l kk pos) (rdE X.K ec Wx W (.tup es)) := (pe_tup h).weak fun σ H Q q => by
  obtain ⟨c, f, r, q⟩ := q
  rw [evE] at q
  refine ⟨c, f, r, q.bind.val.mono fun ps f1 hq ws H1 r1 k1 rp => ?_⟩
  obtain ⟨e0, q⟩ := hq
  obtain ⟨v, e, q⟩ := Sat.ofO q
  obtain ⟨vs, e', rfl⟩ := Option.map_eq_some_iff.mp e
  have z : ws.length ≤ sizeLine := line1000 (by rw [rp.len, evPs_len e0]; exact hl)
  refine ⟨z, fun p hp => ?_⟩
  have out := Out.of_k (fr := false) r1 k1 (Q := Q) fun w H' r' k' rp nw => q w H' r' k' rp (fun z => by cases z)
  exact out.newT r1.ln hp (rp.plain e') z
theorem lst_E {es : Exs} {l : List Expr} (h : PA X l (rdA X.K ec Wx W es)) (hl : es.len ≤ 1000) : PE X (.List l pos) (rdE X.K ec Wx W (.lst es)) := (pe_lst h).weak fun σ H Q q => by
  obtain ⟨c, f, r, q⟩ := q
  rw [evE] at q
  refine ⟨c, f, r, q.bind.val.mono fun ps f1 hq ws H1 r1 k1 rp => ?_⟩
  obtain ⟨e0, q⟩ := hq
  obtain ⟨v, e, q⟩ := Sat.ofO q
  obtain ⟨vs, e', rfl⟩ := Option.map_eq_some_iff.mp e
  have z : ws.length ≤ sizeLine := line1000 (by rw [rp.len, evPs_len e0]; exact hl)
  refine ⟨z, fun p hp => ?_⟩
  have out := Out.of_k (fr := true) r1 k1 (Q := Q) fun w H' r' k' rp nw => q w H' r' k' rp (fun _ => nw rfl)
  refine out.newL r1.ln (fun a z => ?_) hp (rp.plain e') z
  obtain ⟨xs, e⟩ := r1.zoT z
  rw [e]; simp
theorem args_nil : PA X [] (rdA X.K ec Wx W .nil) := pa_nil.weak fun σ H Q q => by
  obtain ⟨c, f, r, q⟩ := q
  rw [evPs_nil] at q
  exact q [] H r (Kp.refl _ _) rfl
theorem args_cons {es : Exs} {l : List Expr} (hx : PE X a (rdP X.K ec Wx W x)) (h : PA X l (rdA X.K ec Wx W es)) (hs : noStar a = true) : PA X (a :: l) (rdA X.K ec Wx W (.cons x es)) :=
  (pa_cons hx h (star_cons hs)).weak fun σ H Q q => by
    obtain ⟨c, f, r, q⟩ := q
    rw [evPs_cons] at q
    refine ⟨c, f, r, q.bind.mono fun p f1 q w H1 r1 k1 rp => ⟨c, f1, r1, (Sat.move q k1).bind.mono fun ps f2 q ws H2 r2 k2 rp2 => ?_⟩⟩
    refine q (w :: ws) H2 r2 (k1.trans k2 fun _ z => .inl z) ⟨w, ws, rfl, ?_, rp2⟩
    obtain ⟨_, _, ee, rp1, _⟩ := RepPs.go (ps := [p]) (ws := [w]) ⟨w, [], rfl, rp, rfl⟩ k2
    cases ee
    exact rp1
end
end Ev


set_option Elab.async false
set_option linter.all false
set_option maxRecDepth 100000
set_option maxHeartbeats 4000000
/-! Ev, part 9: calls, slices, what is walked, targets. -/
namespace Ev
open PySem L2 PyProof.Rows
open PySem.W (Frag)

/-- an own list was changed by a call -/
theorem R.callO {K : Frag} {c c2 : Cf} {H H' : Hp} {σ : L2.St} {f : Frm} {i : Nat} {a : Addr} {wl : List V} {out : List Dt} (r : R K c H σ f) (hO : c2.O = c.O) (hi : c.O i = some a) (k : Kp (· = a) H H') (l : Len H') (ha : H' a = some (.lst wl))
    (ro : Reps K c2.zo H' out wl) (hz : ∀ b, c2.zo b → c.zo b ∨ H b = none) (zt2 : ∀ b, c2.Z b → ∃ xs, H' b = some (.lst xs)) (zf2 : ∀ j b, c.O j = some b → ¬ c2.Z b) : R K c2 H' σ (f.set i (.own out)) := by
  obtain ⟨vs0, e0⟩ := r.ow i a hi
  obtain ⟨a', wl0, hi', hσ, hl0, _⟩ := r.own i vs0 e0
  rw [hi] at hi'
  cases hi'
  have hlt : i < f.length := (List.getElem?_eq_some_iff.mp e0).1
  have kz : Kp c.zo H H' := k.weak fun b e => by rw [e]; exact .inr ⟨i, hi⟩
  refine ⟨by rw [List.length_set]; exact r.len, l, zt2, fun j v e => ?_, fun j vs e => ?_, fun j b e => ?_, fun j1 j2 b e1 e2 => ?_, fun j b e => zf2 j b (by rw [← hO]; exact e)⟩
  · by_cases hj : i = j
    · subst hj
      rw [List.getElem?_set_self hlt] at e
      cases e
    · rw [List.getElem?_set_ne hj] at e
      obtain ⟨w, e1, e2⟩ := r.val j v e
      exact ⟨w, e1, Rep.keep kz hz _ _ e2⟩
  · by_cases hj : i = j
    · subst hj
      rw [List.getElem?_set_self hlt] at e
      cases e
      exact ⟨a, wl, by rw [hO]; exact hi, hσ, ha, ro⟩
    · rw [List.getElem?_set_ne hj] at e
      obtain ⟨b, ws, e1, e2, e3, e4⟩ := r.own j vs e
      have hb : b ≠ a := fun z => hj (r.inj i j a hi (by rw [← z]; exact e1))
      exact ⟨b, ws, by rw [hO]; exact e1, e2, k.st b _ e3 (.inl hb), Reps.keep kz hz _ _ e4⟩
  · rw [hO] at e
    by_cases hj : i = j
    · subst hj
      exact ⟨out, by rw [List.getElem?_set_self hlt]⟩
    · obtain ⟨vs, e2⟩ := r.ow j b e
      exact ⟨vs, by rw [List.getElem?_set_ne hj]; exact e2⟩
  · rw [hO] at e1 e2
    exact r.inj j1 j2 b e1 e2
theorem call_np {T : Tab} {d g : Nat} {own : Option (List Dt)} {vs : List Dt} {fn : Fn} (hf : T.fns[g]? = some fn) (h : T.call d g own vs ≠ .stuck) : own.isSome = fn.io ∧ vs.length + (if fn.io then 1 else 0) = fn.np := by
  cases d with
  | zero => exact absurd rfl h
  | succ d =>
    unfold Tab.call at h
    rw [hf] at h
    dsimp only at h
    by_cases z : own.isSome = fn.io ∧ vs.length + (if fn.io then 1 else 0) = fn.np ∧ fn.np ≤ fn.names.length
    · exact ⟨z.1, z.2.1⟩
    · rw [if_neg z] at h
      exact absurd rfl h
section
variable {X : Cx} {ec : Nat → Value} {Wx : WX} {W : Wd} {a b e : Expr} {x y z : Ex} {pos p : Pos} {l : List Expr} {T : Tab} {d : Nat} {o0 f0 : Bool}
theorem call_E (g : Gd X T d ec) {gi : Nat} {fn : Fn} {es : Exs} (hfn : T.fns[gi]? = some fn) {n : Str} (hn : n = Str.ofString fn.name) (hg : Gl X n) (hdb : (n == ("__debug__" : Str)) = false) (tk : Takes X Wx)
    (h : PA X (e :: l) (rdA X.K ec Wx (T.wd (T.call d) o0 f0) es)) (hs : (e :: l).all noStar = true) : PE X (.Call (.Name n p) (e :: l) [] pos) (rdE X.K ec Wx (T.wd (T.call d) o0 f0) (.call gi es)) := by
  obtain ⟨f, fd, ps, hm, hk, hb, F⟩ := g.fns gi fn hfn
  have hs' := hs
  rw [List.all_cons, Bool.and_eq_true] at hs'
  refine (callG F g.room g.gds hg (by rw [hn]; exact hm) hk hb tk h hdb (star_cons hs'.1) (star_any hs'.2)).weak fun σ H Q q => ?_
  obtain ⟨c, f, r, q⟩ := q
  rw [evE] at q
  refine ⟨c, f, r, q.bind.mono fun pv f1 q ws H1 r1 k1 rp => ?_⟩
  have hio : (T.wd (T.call d) o0 f0).io gi = fn.io := by show T.ioOf gi = _; unfold Tab.ioOf; rw [hfn]
  have hfr : isFr (T.wd (T.call d) o0 f0) (.call gi es) = fn.fr := by show T.frOf gi = _; unfold Tab.frOf; rw [hfn]
  rw [hio] at q
  rw [hfr] at q
  cases io : fn.io with
  | false =>
    rw [io] at q
    dsimp only at q
    cases hp : plain pv with
    | none => rw [hp] at q; exact q.elim
    | some vs =>
      rw [hp] at q
      dsimp only at q
      have rs := rp.plain hp
      have zt : ∀ a, c.zo a → ∃ xs, H1 a = some (.lst xs) := fun a z => r1.zoT z
      have hnp : T.call d gi none vs ≠ .stuck → ws.length = fn.np := fun z => by
        have := (call_np hfn z).2
        rw [io] at this
        rw [rs.length]
        simpa using this
      have cw : (T.wd (T.call d) o0 f0).call gi none vs = T.call d gi none vs := rfl
      rw [cw] at q
      cases hc : T.call d gi none vs with
      | stuck => rw [hc] at q; exact q.elim
      | ok v out =>
        rw [hc] at q
        refine ⟨c.zo, vs, r1.ln, zt, hnp (by rw [hc]; simp), .inl ⟨io, rs, ?_⟩⟩
        rw [hc]
        exact Out.of_k r1 k1 q
      | exc k =>
        rw [hc] at q
        refine ⟨c.zo, vs, r1.ln, zt, hnp (by rw [hc]; simp), .inl ⟨io, rs, ?_⟩⟩
        rw [hc]
        exact fun H' sm l => q H' (r1.same sm l) (k1.trans (Kp.of_same (Y := c.oa) sm) fun _ z => .inl z)
  | true =>
    rw [io] at q
    match pv, rp, q with
    | [], rp, q => exact q.elim
    | .v _ :: _, rp, q => exact q.elim
    | .o i :: r', rp, q =>
      dsimp only at q
      cases hO : getO f1 i with
      | none => rw [hO] at q; exact q.elim
      | some xs =>
        cases hp : plain r' with
        | none => rw [hO, hp] at q; exact q.elim
        | some vs =>
          rw [hO, hp] at q
          dsimp only at q
          have cw : (T.wd (T.call d) o0 f0).call gi (some xs) vs = T.call d gi (some xs) vs := rfl
          rw [cw] at q
          obtain ⟨w, wr, ew, e1, rr⟩ := rp
          have rs := rr.plain hp
          obtain ⟨a, wl, hi, e2, e3, e4⟩ := r1.own i xs (getO_some hO)
          have e1 : σ[i]? = some (some w) := e1
          rw [e2] at e1
          cases e1
          have hz : ∀ b, (c.Z b ∨ (c.oa b ∧ b ≠ a)) ∨ b = a → c.zo b ∨ H1 b = none := fun b z => by
            rcases z with (z | z) | z
            · exact .inl (.inl z)
            · exact .inl (.inr z.1)
            · rw [z]; exact .inl (.inr ⟨i, hi⟩)
          have hz' : ∀ b, c.zo b → (c.Z b ∨ (c.oa b ∧ b ≠ a)) ∨ b = a := fun b z => by
            by_cases hb : b = a
            · exact .inr hb
            · exact .inl (z.imp id fun z => ⟨z, hb⟩)
          cases hc : T.call d gi (some xs) vs with
          | stuck => rw [hc] at q; exact q.elim
          | exc k => rw [hc] at q; exact q.elim
          | ok v out =>
            rw [hc] at q
            have hnp : ws.length = fn.np := by
              have := (call_np hfn (own := some xs) (vs := vs) (by rw [hc]; simp)).2
              rw [io] at this
              rw [ew, List.length_cons, rs.length]
              simpa using this
            refine ⟨fun b => c.Z b ∨ (c.oa b ∧ b ≠ a), vs, r1.ln, fun b z => r1.zoT (z.imp id And.left), hnp, .inr ⟨io, a, wl, wr, xs, ew, e3, fun z => ?_, Reps.keep (Kp.refl _ _) hz _ _ e4, Reps.keep (Kp.refl _ _) hz _ _ rs, ?_⟩⟩
            · rcases z with z | z
              · exact r1.zf i a hi z
              · exact z.2 rfl
            · rw [hc]
              dsimp only
              intro w' H' wl' kk ll ha ro rv nw
              have k2 : Kp c.oa H H' := k1.trans (kk.weak (Y' := c.oa) fun b e => by rw [e]; exact ⟨i, hi⟩) fun _ z => .inl z
              have ro' : Reps X.K c.zo H' out wl' := Reps.keep (Kp.refl _ _) (fun b z => .inl (hz' b z)) _ _ ro
              have zk : ∀ b, c.Z b → ∃ xs, H' b = some (.lst xs) := fun b z => by
                obtain ⟨xs, e⟩ := r1.zt b z
                exact ⟨xs, kk.st b _ e (.inl fun h => r1.zf i a hi (by rw [← h]; exact z))⟩
              refine q w' H' (r1.callO rfl hi kk ll ha ro' (fun b z => .inl z) zk r1.zf) k2 (Rep.keep (Kp.refl _ _) (fun b z => .inl (hz' b z)) _ _ rv) fun hf us e => ?_
              obtain ⟨p, ws', n1, n2, n3, n4, n5⟩ := nw hf us e
              have np : H p = none := k1.free n2
              have hzp : ∀ b, (c.zo b ∨ b = p) → ((c.Z b ∨ (c.oa b ∧ b ≠ a)) ∨ b = a) ∨ b = p := fun b z => z.imp (hz' b) id
              have hzq : ∀ b, (c.plus p).zo b → c.zo b ∨ b = p := fun b z => by
                rcases z with (z | z) | z
                · exact .inl (.inl z)
                · exact .inr z
                · exact .inl (.inr z)
              refine ⟨p, ws', n1, np, n3, Reps.keep (Kp.refl _ _) (fun b z => .inl (hzp b z)) _ _ n4, r1.callO (c2 := c.plus p) rfl hi kk ll ha (Reps.keep (Kp.refl _ _) (fun b z => .inl (hzp b (hzq b z))) _ _ n5) (fun b z => ?_) (fun b z => ?_) fun j b e z => ?_⟩
              · rcases hzq b z with z | z
                · exact .inl z
                · rw [z]; exact .inr n2
              · rcases z with z | z
                · exact zk b z
                · rw [z]; exact ⟨ws', n3⟩
              · rcases z with z | z
                · exact r1.zf j b e z
                · subst z
                  obtain ⟨xs, e'⟩ := r1.zoT (.inr ⟨j, e⟩)
                  rw [n2] at e'
                  cases e'
/-! ### slices -/
def rdO (K : Frag) (ec : Nat → Value) (Wx : WX) (W : Wd) (es : Exs) : TO := fun σ H Q => ∃ c f, R K c H σ f ∧ Sat K ec Wx c σ H (evO W es f) fun o f' => ∀ H', R K c H' σ f' → Kp c.oa H H' → Q o H'
theorem part_none : PO X none (rdO X.K ec Wx W .nil) := ⟨fun pins s σ H Q I q => po_none.run pins s σ H Q I (by
  obtain ⟨c, f, r, q⟩ := q
  rw [evO] at q
  exact q H r (Kp.refl _ _))⟩
theorem part_some {es : Exs} (h : PE X a (rdE X.K ec Wx W x)) : PO X (some a) (rdO X.K ec Wx W (.cons x es)) := ⟨fun pins s σ H Q I q => (po_some h).run pins s σ H Q I (by
  obtain ⟨c, f, r, q⟩ := q
  rw [evO] at q
  refine ⟨c, f, r, q.bind.mono fun v f1 q w H1 r1 k1 rp _ => ?_⟩
  cases v with
  | int i =>
    simp only [Rep] at rp
    exact ⟨i, rp, q H1 r1 k1⟩
  | none => exact q.elim
  | bool _ => exact q.elim
  | str _ => exact q.elim
  | list _ => exact q.elim
  | tuple _ => exact q.elim
  | dict _ => exact q.elim)⟩
theorem slice_E {lo hi : Option Expr} {xl xh : Exs} {p2 : Pos} (hx : PE X a (rdP X.K ec Wx W x)) (hl : PO X lo (rdO X.K ec Wx W xl)) (hh : PO X hi (rdO X.K ec Wx W xh)) : PE X (.Subscript a (.Slice lo hi none p2) pos) (rdE X.K ec Wx W (.slice x xl xh)) :=
  (pe_slice or_slice hx hl hh).weak fun σ H Q q => by
    obtain ⟨c, f, r, q⟩ := q
    rw [evE] at q
    refine ⟨c, f, r, (show Sat X.K ec Wx c σ H ((evP W x f).bind _) _ from q).bind.mono fun pv f1 q w H1 r1 k1 rp => ⟨c, f1, r1, (Sat.move q k1).bind.mono fun ol f2 q H2 r2 k2 => ⟨c, f2, r2, ?_⟩⟩⟩
    have k12 := k1.trans k2 fun _ z => .inl z
    refine (show Sat X.K ec Wx c σ H2 ((evO W xh f2).bind _) _ from Sat.move q k2).bind.mono fun oh f3 q H3 r3 k3 => ?_
    obtain ⟨v, e, q⟩ := Sat.ofO q
    obtain ⟨vs, e1, e2⟩ := Option.bind_eq_some_iff.mp e
    obtain ⟨v0, e3, e4⟩ := Option.bind_eq_some_iff.mp e2
    obtain ⟨_, _, ee, rp1, _⟩ := RepPs.go (ps := [pv]) (ws := [w]) ⟨w, [], rfl, rp, rfl⟩ (k2.trans k3 fun _ z => .inl z)
    cases ee
    have rr := RepPs.res r3 (ps := [pv]) ⟨w, [], rfl, rp1, rfl⟩ e1
    obtain ⟨dd, rfl, rd⟩ := reps1 rr
    cases e3
    refine ⟨c.zo, v0, v, r3.ln, fun a z => ?_, rd, e4, Out.of_k r3 (k12.trans k3 fun _ z => .inl z) q⟩
    obtain ⟨xs, e⟩ := r3.zoT z
    rw [e]; simp
/-! ### what is walked -/
/-- a list, a tuple -/
theorem walkSeq {tg : Expr} {tl : TE} (h : PE X a tl) : PI X tg a fun σ H Rk => tl σ H fun x H1 => ∃ b, x = .ref b ∧ (((∃ xs, SqL X.K H1 b xs) ∧ Rk (Itl X.K b) H1) ∨ ((∃ xs, SqT X.K H1 b xs) ∧ Rk (Itt X.K b) H1)) := by
  constructor
  intro pins s σ H Rk I q
  refine thn (h.run pins s σ H _ I q) fun v s1 ⟨x, H1, I1, r1, q1⟩ => ?_
  obtain ⟨b, e, q1⟩ := q1
  subst e
  cases r1
  have at_ : ∀ o : Obj, ∀ bb ∈ [s1.heap.objs.size], FpOk X pins H1 bb := fun o bb hb => by
    rw [List.mem_singleton.mp hb]
    exact I1.fpOk (Nat.le_refl _) (I1.hok.fresh (Nat.le_refl _))
  rcases q1 with ⟨⟨xs, hq⟩, q1⟩ | ⟨⟨xs, hq⟩, q1⟩
  · obtain ⟨its, _, p, _⟩ := I1.list hq
    refine wpAny_pyIter_list p.isList ⟨s1.heap.objs.size, [s1.heap.objs.size], _, _, H1, rfl, I1.kept (t' := s1.toks) fun b o e => Heap.get?_push_of_some _ e, turn_list b _, ?_, at_ { cls := .none, data := .fields #[] }, q1⟩
    exact ⟨_, Heap.get?_push_size _ rfl, rfl, rfl⟩
  · obtain ⟨its, _, p, _⟩ := I1.tuple hq
    refine wpAny_pyIter_tuple (show s1.heap.IsTuple b its.toArray from p) ⟨s1.heap.objs.size, [s1.heap.objs.size], _, _, H1, rfl, I1.kept (t' := s1.toks) fun b o e => Heap.get?_push_of_some _ e, turn_tuple b _, ?_, at_ { cls := .none, data := .fields #[] }, q1⟩
    exact ⟨_, Heap.get?_push_size _ rfl, rfl, rfl⟩
theorem _root_.L2.PI.weak {tg it : Expr} {t t' : TI} (h : PI X tg it t) (i : ∀ σ H Rk, t' σ H Rk → t σ H Rk) : PI X tg it t' := ⟨fun pins s σ H Rk I q => h.run pins s σ H Rk I (i _ _ _ q)⟩
end
theorem rngOk_some {m n : Int} {items : List Dt} (h : rngOk m n = some items) : items = rangeL m n ∧ -(2 ^ 62) ≤ m ∧ m < 2 ^ 62 ∧ -(2 ^ 62) ≤ n ∧ n < 2 ^ 62 ∧ n - m ≤ 16777216 := by
  unfold rngOk at h
  split at h
  · rename_i z
    simp only [Bool.and_eq_true] at z
    have h1 := inBig_iff z.1.1
    have h2 := inBig_iff z.1.2
    have h3 := Nat.le_of_ble_eq_true z.2
    exact ⟨(Option.some.inj h).symm, h1.1, h1.2, h2.1, h2.2, by omega⟩
  · cases h
theorem ItOk.of {K : Frag} {Z : Addr → Prop} {J : It} {H : Hp} {items : List Dt} (h : ∀ (H2 : Hp) (Z2 : Addr → Prop), Kp Z H H2 → (∀ a, Z2 a → Z a ∨ H a = none) → Len H2 →
  (∀ (i : Nat) v, items[i]? = some v → J.go i H2 ∧ ∀ x H3, J.yld i H2 x H3 → Same H2 H3 ∧ Len H3 ∧ Rep K Z2 H3 v x) ∧ ∀ i, items.length ≤ i → J.stop i H2) : ItOk K Z J H items := fun H2 Z2 k hz l2 => ⟨(h H2 Z2 k hz l2).1, (h H2 Z2 k hz l2).2 _ (Nat.le_refl _)⟩
theorem itOk_l {K : Frag} {Z : Addr → Prop} {H : Hp} {a : Addr} {ws : List V} {items : List Dt} (q : LsAt K Z H a ws) (l : Len H) (r : Reps K Z H items ws) : ItOk K Z (Itl K a) H items := ItOk.of fun H2 Z2 k hz l2 => by
  have q2 := (q.keep (Z' := Z2) k hz).lt.seq
  refine ⟨fun i v e => ?_, fun i hi => ⟨ws, q2, by rw [r.length]; exact hi⟩⟩
  obtain ⟨w, e1, e2⟩ := r.get e
  refine ⟨⟨ws, w, q2, e1⟩, fun x H3 y => ?_⟩
  obtain ⟨rfl, y⟩ := y
  have := y ws q2
  rw [e1] at this
  cases this
  exact ⟨fun _ _ e => e, l2, Rep.keep k hz _ _ e2⟩
theorem itOk_t {K : Frag} {Z : Addr → Prop} {H : Hp} {a : Addr} {ws : List V} {items : List Dt} (q : SqT K H a ws) (r : Reps K Z H items ws) : ItOk K Z (Itt K a) H items := ItOk.of fun H2 Z2 k hz l2 => by
  have q2 := SqT.keep q k
  refine ⟨fun i v e => ?_, fun i hi => ⟨ws, q2, by rw [r.length]; exact hi⟩⟩
  obtain ⟨w, e1, e2⟩ := r.get e
  refine ⟨⟨ws, w, q2, e1⟩, fun x H3 y => ?_⟩
  obtain ⟨rfl, y⟩ := y
  have := y ws q2
  rw [e1] at this
  cases this
  exact ⟨fun _ _ e => e, l2, Rep.keep k hz _ _ e2⟩
theorem rangeL_len (m n : Int) : (rangeL m n).length = (n - m).toNat := by simp [rangeL]
theorem rangeL_get {m n : Int} {i : Nat} {v : Dt} (h : (rangeL m n)[i]? = some v) : i < (n - m).toNat ∧ v = .int (m + (i : Int)) := by
  have hl := (List.getElem?_eq_some_iff.mp h).1
  rw [rangeL_len] at hl
  unfold rangeL at h
  rw [List.getElem?_map, List.getElem?_range hl] at h
  exact ⟨hl, (Option.some.inj h).symm⟩
theorem itOk_r {K : Frag} {Z : Addr → Prop} {H : Hp} (m n : Int) : ItOk K Z (Itr m (n - m).toNat) H (rangeL m n) := ItOk.of fun H2 Z2 k hz l2 => by
  refine ⟨fun i v e => ?_, fun i hi => by rw [rangeL_len] at hi; exact hi⟩
  obtain ⟨h1, rfl⟩ := rangeL_get e
  refine ⟨h1, fun x H3 y => ?_⟩
  obtain ⟨rfl, rfl⟩ := y
  exact ⟨fun _ _ e => e, l2, by simp only [Rep]⟩
theorem pair_rep {K : Frag} {Z : Addr → Prop} {H : Hp} {T : Addr} {x y : Dt} {u w : V} (hT : H T = none) (r1 : Rep K Z H x u) (r2 : Rep K Z H y w) (l : Len H) : Same H (upd H T (.tup [u, w])) ∧ Len (upd H T (.tup [u, w])) ∧ Rep K Z (upd H T (.tup [u, w])) (.tuple [x, y]) (.ref T) := by
  have sm : Same H (upd H T (.tup [u, w])) := Same.upd hT
  refine ⟨sm, l.upd fun xs e => ?_, ?_⟩
  · rcases e with e | e
    · cases e
    · cases e; show 2 ≤ sizeLine; decide
  · simp only [Rep, Reps]
    exact ⟨T, [u, w], rfl, .inl (.inl upd_same), u, [w], rfl, Rep.keep (Kp.of_same sm) (fun _ z => .inl z) _ _ r1, w, [], rfl, Rep.keep (Kp.of_same sm) (fun _ z => .inl z) _ _ r2, rfl⟩
theorem zipL_len : ∀ xs ys : List Dt, (zipL xs ys).length = min xs.length ys.length
  | [], ys => by simp [zipL]
  | x :: xs, [] => by simp [zipL]
  | x :: xs, y :: ys => by simp only [zipL, List.length_cons, zipL_len xs ys]; omega
theorem zipL_get : ∀ {xs ys : List Dt} {i : Nat} {v : Dt}, (zipL xs ys)[i]? = some v → ∃ x y, xs[i]? = some x ∧ ys[i]? = some y ∧ v = .tuple [x, y]
  | [], ys, i, v, h => by simp [zipL] at h
  | x :: xs, [], i, v, h => by simp [zipL] at h
  | x :: xs, y :: ys, 0, v, h => by simp only [zipL, List.getElem?_cons_zero, Option.some.injEq] at h; exact ⟨x, y, rfl, rfl, h.symm⟩
  | x :: xs, y :: ys, i + 1, v, h => by
    simp only [zipL, List.getElem?_cons_succ] at h
    obtain ⟨x', y', h1, h2, h3⟩ := zipL_get h
    exact ⟨x', y', by simpa using h1, by simpa using h2, h3⟩
theorem itOk_zl {K : Frag} {Z : Addr → Prop} {H : Hp} {a b : Addr} {ws us : List V} {xs ys : List Dt} (q : LsAt K Z H a ws) (q' : LsAt K Z H b us) (r : Reps K Z H xs ws) (r' : Reps K Z H ys us) : ItOk K Z (Itz K a b) H (zipL xs ys) := ItOk.of fun H2 Z2 k hz l2 => by
  have q2 := (q.keep (Z' := Z2) k hz).lt.seq
  have q2' := (q'.keep (Z' := Z2) k hz).lt.seq
  refine ⟨fun i v e => ?_, fun i hi => ⟨ws, us, q2, q2', by rw [zipL_len] at hi; rw [r.length, r'.length]; omega⟩⟩
  obtain ⟨x, y, e1, e2, rfl⟩ := zipL_get e
  obtain ⟨w, g1, g2⟩ := r.get e1
  obtain ⟨u, g3, g4⟩ := r'.get e2
  refine ⟨⟨ws, us, w, u, q2, q2', g1, g3⟩, fun z H3 y => ?_⟩
  obtain ⟨T, x1, y1, rfl, hT, rfl, f1, f2⟩ := y
  have h1 := f1 ws q2
  have h2 := f2 us q2'
  rw [g1] at h1
  rw [g3] at h2
  cases h1
  cases h2
  exact pair_rep hT (Rep.keep k hz _ _ g2) (Rep.keep k hz _ _ g4) l2
theorem itOk_zt {K : Frag} {Z : Addr → Prop} {H : Hp} {a b : Addr} {ws us : List V} {xs ys : List Dt} (q : SqT K H a ws) (q' : SqT K H b us) (r : Reps K Z H xs ws) (r' : Reps K Z H ys us) : ItOk K Z (RZ.ItzT K a b) H (zipL xs ys) := ItOk.of fun H2 Z2 k hz l2 => by
  have q2 := SqT.keep q k
  have q2' := SqT.keep q' k
  refine ⟨fun i v e => ?_, fun i hi => ⟨ws, us, q2, q2', by rw [zipL_len] at hi; rw [r.length, r'.length]; omega⟩⟩
  obtain ⟨x, y, e1, e2, rfl⟩ := zipL_get e
  obtain ⟨w, g1, g2⟩ := r.get e1
  obtain ⟨u, g3, g4⟩ := r'.get e2
  refine ⟨⟨ws, us, w, u, q2, q2', g1, g3⟩, fun z H3 y => ?_⟩
  obtain ⟨T, x1, y1, rfl, hT, rfl, f1, f2⟩ := y
  have h1 := f1 ws q2
  have h2 := f2 us q2'
  rw [g1] at h1
  rw [g3] at h2
  cases h1
  cases h2
  exact pair_rep hT (Rep.keep k hz _ _ g2) (Rep.keep k hz _ _ g4) l2
theorem enumL_len : ∀ (n : Nat) (xs : List Dt), (enumL n xs).length = xs.length
  | _, [] => rfl
  | n, x :: xs => by simp only [enumL, List.length_cons, enumL_len]
theorem enumL_get : ∀ {n : Nat} {xs : List Dt} {i : Nat} {v : Dt}, (enumL n xs)[i]? = some v → ∃ x, xs[i]? = some x ∧ v = .tuple [.int ((n + i : Nat) : Int), x]
  | n, [], i, v, h => by simp [enumL] at h
  | n, x :: xs, 0, v, h => by simp only [enumL, List.getElem?_cons_zero, Option.some.injEq] at h; exact ⟨x, rfl, h.symm⟩
  | n, x :: xs, i + 1, v, h => by
    simp only [enumL, List.getElem?_cons_succ] at h
    obtain ⟨x', h1, h2⟩ := enumL_get h
    exact ⟨x', by simpa using h1, by rw [h2, show n + 1 + i = n + (i + 1) by omega]⟩
theorem itOk_e {K : Frag} {Z : Addr → Prop} {H : Hp} {a : Addr} {ws : List V} {xs : List Dt} (q : LsAt K Z H a ws) (r : Reps K Z H xs ws) : ItOk K Z (Ite K a) H (enumL 0 xs) := ItOk.of fun H2 Z2 k hz l2 => by
  have q2 := (q.keep (Z' := Z2) k hz).lt.seq
  refine ⟨fun i v e => ?_, fun i hi => ⟨ws, q2, by rw [enumL_len] at hi; rw [r.length]; exact hi⟩⟩
  obtain ⟨x, e1, rfl⟩ := enumL_get e
  obtain ⟨w, g1, g2⟩ := r.get e1
  refine ⟨⟨ws, w, q2, g1⟩, fun z H3 y => ?_⟩
  obtain ⟨T, x1, rfl, hT, rfl, f1⟩ := y
  have h1 := f1 ws q2
  rw [g1] at h1
  cases h1
  rw [Nat.zero_add]
  exact pair_rep hT (by simp only [Rep]) (Rep.keep k hz _ _ g2) l2
end Ev


set_option Elab.async false
set_option linter.all false
set_option maxRecDepth 100000
set_option maxHeartbeats 4000000
/-! Ev, part 9b: enumerate of a tuple. -/
namespace Ev
open PySem L2 PyProof.Rows PySem.Spec
open PySem.W (Frag)
open AutoSeq1 (wpAny_loadPart')
def tItO (t : Addr) : Obj := { cls := .type "tuple_iterator", data := .fields #[.ref t, .int 0 0] }
def enO (z : Addr) : Obj := { cls := .type "enumerate", data := .fields #[.none, .bool false, .ref z, rawInt 0, .none, .none] }
theorem enumNewT (t : Addr) (items : Array Value) (n : Nat) (dct : Option Addr) (sl : Array (Option Value)) :
    Meets (Builtin.«enumerate.__new__» ⟨[.type "enumerate", .ref t], []⟩) (fun _ R s => s.heap.get? t = some { cls := .type "tuple", dict := dct, data := .seq items n, slots := sl } ∧
      R (.ok (.ret (.ref (s.heap.push (tItO t)).objs.size))) { s with heap := (s.heap.push (tItO t)).push (enO s.heap.objs.size) }) :=
  .of_wp fun prog w A R s h => by
    obtain ⟨hp, g, d, tk, os⟩ := s
    obtain ⟨hl, h⟩ := h
    have sb := sub_enumerate
    have hT : Heap.IsTuple (Shared.heap ⟨hp, g, d, tk, os⟩) t items := ⟨_, hl, rfl, n, rfl⟩
    wp_walk using wpAny_loadPart' hl
    apply wpAny_stack_any
    intro st
    apply wpAny_pure
    split
    · rename_i c _ _ _ _ _
      cases (c == Value.type "enumerate")
      · wp_walk using wpAny_loadPart' hl, wpAny_pyIter_tuple hT
        exact ⟨_, rfl, h⟩
      · wp_walk using wpAny_loadPart' hl, wpAny_pyIter_tuple hT
        exact ⟨_, rfl, h⟩
    · wp_walk using wpAny_loadPart' hl, wpAny_pyIter_tuple hT
      exact ⟨_, rfl, h⟩
section
variable {P : Program} {w : World} {A : Around} {E : Value → Shared → Prop} {s : Shared}
theorem callEnumT {t : Addr} {items : Array Value} {Q : Value → Shared → Prop} (hT : s.heap.IsTuple t items)
    (h : ∀ h', IsEnum h' (s.heap.objs.size + 1) s.heap.objs.size 0 .none → h'.IsTupleIter s.heap.objs.size t 0 → (∀ b o, s.heap.get? b = some o → h'.get? b = some o) → Q (.ref (s.heap.objs.size + 1)) { s with heap := h' }) :
    wpAny (model P w) A (call (.type "enumerate") [.ref t]) Q E s := by
  obtain ⟨⟨c, dct, dt, sl⟩, e1, e2, n, e3⟩ := hT
  replace e2 : c = .type "tuple" := e2
  replace e3 : dt = .seq items n := e3
  subst e2 e3
  refine callType_new F.called_enumerate (by decide) (F.typeCall_enumerate_1 _) (F.newCall_enumerate_1 _) (fun obj => F.args_object_init_2 obj _) F.entry_enumerate_new (enumNewT t items n dct sl) ⟨e1, ?_⟩
  have size1 : (s.heap.push (tItO t)).objs.size = s.heap.objs.size + 1 := Heap.size_push ..
  show _ ∧ _
  rw [size1]
  have en : IsEnum ((s.heap.push (tItO t)).push (enO s.heap.objs.size)) (s.heap.objs.size + 1) s.heap.objs.size 0 .none := by
    have z := Heap.get?_push_size (s.heap.push (tItO t)) (o := enO s.heap.objs.size) rfl
    rw [size1] at z
    exact z
  have it1 : ((s.heap.push (tItO t)).push (enO s.heap.objs.size)).get? s.heap.objs.size = some (tItO t) := Heap.get?_push_of_some _ (Heap.get?_push_size _ rfl)
  exact ⟨⟨_, en, rfl⟩, h _ en ⟨_, it1, rfl, rfl⟩ fun b o x => Heap.get?_push_of_some _ (Heap.get?_push_of_some _ x)⟩
end
/-- the tuple at a, each item in a new pair with its place -/
def IteT (K : Frag) (a : Addr) : It :=
  ⟨fun i H => ∃ xs x, SqT K H a xs ∧ xs[i]? = some x, fun i H v H' => ∃ T x, v = .ref T ∧ H T = none ∧ H' = upd H T (.tup [.int (i : Nat), x]) ∧ ∀ xs, SqT K H a xs → xs[i]? = some x, fun i H => ∃ xs : List V, SqT K H a xs ∧ xs.length = i⟩
theorem turn_enumT {P : Program} {w : World} {K : Frag} {elts : List Expr} {kk : Nat} {tpos : Pos} (a e it : Addr) :
    Turn P w K (.Tuple elts kk tpos) (IteT K a) [e, it] e (fun i h => (∃ old, IsEnum h e it ((i : Nat) : Int) old) ∧ h.IsTupleIter it a i ∧ e ≠ it ∧ a ≠ it ∧ a ≠ e) where
  mem := List.mem_cons_self
  obj := fun i h st b hb => by
    obtain ⟨⟨old, he⟩, ⟨o, ho, hc, hd⟩, _⟩ := st
    rcases (by simpa using hb : b = e ∨ b = it) with z | z
    · subst z; exact ⟨_, he, fun v q => nomatch q⟩
    · subst z; exact ⟨o, ho, fun v q => by rw [hd] at q; cases q⟩
  keep := fun i h h' st k => by
    obtain ⟨⟨old, he⟩, hi, hne⟩ := st
    exact ⟨⟨old, k e (by simp) _ he⟩, hi.at fun o q => k it (by simp) o q, hne⟩
  item := by
    intro X hP hw hK hc i pins s σ H E I hf st hg
    subst hP hw hK
    obtain ⟨⟨old, he⟩, hit, hne, hai, hae⟩ := st
    obtain ⟨xs, x, hq, hx⟩ := hg
    obtain ⟨its, rv, p, hz⟩ := I.tuple hq
    obtain ⟨u, hu, ru⟩ := rv.get hx
    have hel : e < s.heap.objs.size := Heap.lt_size he
    have hil : it < s.heap.objs.size := by
      obtain ⟨_, q, _⟩ := hit
      exact Heap.lt_size q
    have hlt : i < its.toArray.size := by
      rw [List.size_toArray]
      exact (List.getElem?_eq_some_iff.mp hu).1
    have D := Draws.tuple (prog := X.prog) (w := X.w) (A := X.A.in1) (I.ok.hd hc) it a hai its.toArray
    refine wpAny_pyNext_enum_itemD D he ⟨hit, p⟩ hlt hne (by simp; exact ⟨hne, fun z => hae z.symm⟩) fun y h' tk hy ho hit' hT hsz hk => ?_
    have hyu : y = u := by
      have hy : its.toArray[i]? = some y := hy
      have hy : its[i]? = some y := by simpa using hy
      rw [hu] at hy
      exact (Option.some.inj hy).symm
    subst hyu
    refine ⟨_, rfl, wpAny_letOwnedTupleGo_enum (s := { s with heap := h', toks := tk + 1 }) ho fun h'' he' sb => ?_⟩
    have hT2 : h''.get? s.heap.objs.size = some { cls := .type "tuple", data := .seq #[.int i tk, y] } := (sb.2 _ (Nat.ne_of_gt hel)).trans hT
    have nw : ObjOk X.prog X.w (upd H s.heap.objs.size (.tup [.int (i : Nat), x])) h'' s.heap.objs.size (.tup [.int (i : Nat), x]) := by
      refine ⟨?_, [.int i tk, y], .cons ⟨_, rfl⟩ (.cons ru .nil), ⟨_, hT2, rfl, _, rfl⟩⟩
      show 2 ≤ sizeLine
      decide
    have I1 : Inv X pins σ (upd H s.heap.objs.size (.tup [.int (i : Nat), x])) { s with heap := h'', toks := tk + 1 } := by
      refine I.turnedNew (ch := [e, it]) (fun b ob hb q => ?_) hf (Nat.le_refl _) nw
      have b1 : b ≠ e := fun z => hb (by simp [z])
      have b2 : b ≠ it := fun z => hb (by simp [z])
      exact (sb.2 b b1).trans (hk b ob b1 b2 q)
    refine ⟨.ref s.heap.objs.size, _, I1, rfl, ⟨_, x, rfl, I.hok.fresh (Nat.le_refl _), rfl, fun ys hy => by rw [I.tuple_inj hy hq]; exact hx⟩, ⟨⟨y, ?_⟩, hit'.1.at fun o q => (sb.2 it (Ne.symm hne)).trans q, hne, hai, hae⟩, fun b hb => ?_⟩
    · rw [show ((i + 1 : Nat) : Int) = (i : Int) + 1 by omega]
      exact he'
    · have hb' : b < s.heap.objs.size := by
        rcases (by simpa using hb : b = e ∨ b = it) with z | z
        · subst z; exact hel
        · subst z; exact hil
      rw [upd_ne (Nat.ne_of_lt hb')]
      exact (hf b hb).1
  done := by
    intro X hP hw hK hc i pins s σ H E I hf st hg
    subst hP hw hK
    obtain ⟨⟨old, he⟩, hit, hne, hai, hae⟩ := st
    obtain ⟨xs, hq, hx⟩ := hg
    obtain ⟨its, rv, p, hz⟩ := I.tuple hq
    obtain ⟨f0, f1, f2, f3, f4, f5⟩ := hf it (by simp)
    have hl := rv.length
    have hi : i = its.toArray.size := by rw [List.size_toArray, ← hl]; exact hx.symm
    subst hi
    have D := Draws.tuple (prog := X.prog) (w := X.w) (A := X.A.in1) (I.ok.hd hc) it a hai its.toArray
    exact wpAny_pyNext_enum_endD D he ⟨hit, p⟩ fun h' eb => ⟨rfl, I.turned (t' := s.toks) (fun b o hb q => eb b o hb q) f0 f1 f3 f4 f5⟩
  self := fun A i s Q E st h => by
    obtain ⟨⟨_, he⟩, _⟩ := st
    exact wpAny_pyIter_enum he h
/-- enumerate of a list or a tuple -/
def iEnA (K : Frag) (ta : TA) : TI := fun σ H R => ta σ H fun vs H1 => ∃ a xs, vs = [.ref a] ∧ ((SqL K H1 a xs ∧ R (Ite K a) H1) ∨ (SqT K H1 a xs ∧ R (IteT K a) H1))
theorem pi_enA {X : Cx} {e : Expr} {ta : TA} {p pos tpos : Pos} {elts : List Expr} {kk : Nat} (hg : Gl X "enumerate") (hm : X.mg "enumerate" = none) (ha : PA X [e] ta) (hs : starEach [e] X.env = [(false, eval e X.env)]) :
    PI X (.Tuple elts kk tpos) (.Call (.Name "enumerate" p) [e] [] pos) (iEnA X.K ta) := by
  constructor
  intro pins s σ H R I h
  refine Call_ (ld_blt I hg hm boot_enumerate (PyProof.Rows.callWith_type1 (thn (ha.run pos pins s σ H _ I h) ?_) hs rfl))
  rintro us s1 ⟨vs, H1, I1, r1, a, xs, rfl, q⟩
  rw [Vals.ref1 r1]
  have fp2 : ∀ b ∈ [s1.heap.objs.size + 1, s1.heap.objs.size], FpOk X pins H1 b := fun b hb => by
    have hle : s1.heap.objs.size ≤ b := by
      rcases (by simpa using hb : b = s1.heap.objs.size + 1 ∨ b = s1.heap.objs.size) with z | z <;> omega
    exact I1.fpOk hle (I1.hok.fresh hle)
  rcases q with ⟨hq, q⟩ | ⟨hq, q⟩
  · obtain ⟨its, rv, p', hz⟩ := I1.list hq
    refine call_enumerate_list p'.isList fun h' he hit hsz hk => wpAny_pyIter_enum he ?_
    have I2 : Inv X pins σ H1 { s1 with heap := h' } := I1.kept (t' := s1.toks) hk
    exact ⟨_, _, _, _, H1, rfl, I2, turn_enum a (s1.heap.objs.size + 1) s1.heap.objs.size, ⟨⟨.none, he⟩, hit, Nat.succ_ne_self _⟩, fp2, q⟩
  · obtain ⟨its, rv, p', hz⟩ := I1.tuple hq
    have hlt : a < s1.heap.objs.size := by
      obtain ⟨_, z, _⟩ := p'
      exact Heap.lt_size z
    refine callEnumT p' fun h' he hit hk => wpAny_pyIter_enum he ?_
    have I2 : Inv X pins σ H1 { s1 with heap := h' } := I1.kept (t' := s1.toks) hk
    exact ⟨_, _, _, _, H1, rfl, I2, turn_enumT a (s1.heap.objs.size + 1) s1.heap.objs.size, ⟨⟨.none, he⟩, hit, Nat.succ_ne_self _, Nat.ne_of_lt hlt, Nat.ne_of_lt (Nat.lt_succ_of_lt hlt)⟩, fp2, q⟩
theorem itOk_eT {K : Frag} {Z : Addr → Prop} {H : Hp} {a : Addr} {ws : List V} {xs : List Dt} (q : SqT K H a ws) (r : Reps K Z H xs ws) : ItOk K Z (IteT K a) H (enumL 0 xs) := fun H2 Z2 k hz l2 => by
  have q2 := SqT.keep q k
  refine ⟨fun i v e => ?_, ws, q2, by rw [enumL_len, r.length]⟩
  obtain ⟨x, e1, rfl⟩ := enumL_get e
  obtain ⟨w, g1, g2⟩ := r.get e1
  refine ⟨⟨ws, w, q2, g1⟩, fun z H3 y => ?_⟩
  obtain ⟨T, x1, rfl, hT, rfl, f1⟩ := y
  have h1 := f1 ws q2
  rw [g1] at h1
  cases h1
  rw [Nat.zero_add]
  exact pair_rep hT (by simp only [Rep]) (Rep.keep k hz _ _ g2) l2
end Ev


set_option Elab.async false
set_option linter.all false
set_option maxRecDepth 100000
set_option maxHeartbeats 4000000
/-! Ev, part 10: targets, comprehensions, every expression. -/
namespace Ev
open PySem L2 PyProof.Rows
open PySem.W (Frag)

section
variable {X : Cx} {ec : Nat → Value} {Wx : WX} {W : Wd} {a b e : Expr} {x y z : Ex} {pos p : Pos} {l : List Expr}
theorem evI_seq {tg : Expr} (h : PE X a (rdE X.K ec Wx W x)) : PI X tg a (rdI X.K ec Wx W (.seq x)) := (walkSeq h).weak fun σ H Rk q => by
  obtain ⟨c, f, r, q⟩ := q
  rw [evI] at q
  refine ⟨c, f, r, q.bind.mono fun v f1 q w H1 r1 k1 rp _ => ?_⟩
  obtain ⟨items, e, q⟩ := Sat.ofO q
  cases v with
  | list vs =>
    cases e
    simp only [Rep] at rp
    obtain ⟨p, ws, rfl, q1, s1⟩ := rp
    exact ⟨p, rfl, .inl ⟨⟨ws, q1.lt.seq⟩, q _ H1 r1 k1 (by rw [← s1.length]; exact q1.len r1.ln) (itOk_l q1 r1.ln s1)⟩⟩
  | tuple vs =>
    cases e
    simp only [Rep] at rp
    obtain ⟨p, ws, rfl, q1, s1⟩ := rp
    exact ⟨p, rfl, .inr ⟨⟨ws, q1⟩, q _ H1 r1 k1 (by rw [← s1.length]; exact sqT_len q1 r1.ln) (itOk_t q1 s1)⟩⟩
  | none => cases e
  | bool _ => cases e
  | int _ => cases e
  | str _ => cases e
  | dict _ => cases e
theorem rng_len {m n : Int} (h : n - m ≤ 16777216) : (rangeL m n).length ≤ sizeLine := by
  rw [rangeL_len, sizeLine_eq]; omega
theorem evI_rng1 {tg : Expr} {n : Str} (hn : n = Str.ofString "range") (hg : Gl X n) (hm : X.mg (Str.ofString "range") = none) (h : PE X a (rdE X.K ec Wx W x)) (hs : noStar a = true) : PI X tg (.Call (.Name n p) [a] [] pos) (rdI X.K ec Wx W (.rng1 x)) := by
  subst hn
  refine (pi_range1 hg hm (pa_cons h pa_nil (star_cons hs)) (star_cons hs)).weak fun σ H Rk q => ?_
  obtain ⟨c, f, r, q⟩ := q
  rw [evI] at q
  refine ⟨c, f, r, q.bind.mono fun v f1 q w H1 r1 k1 rp _ => ?_⟩
  cases v with
  | int j =>
    obtain ⟨items, e, q⟩ := Sat.ofO q
    obtain ⟨rfl, h1, h2, h3, h4, h5⟩ := rngOk_some e
    simp only [Rep] at rp
    subst rp
    have := itOk_r (K := X.K) (Z := c.zo) (H := H1) 0 j
    rw [Int.sub_zero] at this
    exact ⟨j, rfl, h3, h4, q _ H1 r1 k1 (rng_len h5) this⟩
  | none => exact q.elim
  | bool _ => exact q.elim
  | str _ => exact q.elim
  | list _ => exact q.elim
  | tuple _ => exact q.elim
  | dict _ => exact q.elim
theorem evI_rng2 {tg : Expr} {n : Str} (hn : n = Str.ofString "range") (hg : Gl X n) (hm : X.mg (Str.ofString "range") = none) (h : PE X a (rdE X.K ec Wx W x)) (h2 : PE X b (rdE X.K ec Wx W y)) (hs : noStar a = true) (hs2 : noStar b = true) :
    PI X tg (.Call (.Name n p) [a, b] [] pos) (rdI X.K ec Wx W (.rng2 x y)) := by
  subst hn
  refine (pi_range2 hg hm (pa_cons h (pa_cons h2 pa_nil (star_cons hs2)) (star_cons hs)) (by rw [star_cons hs, star_cons hs2]; rfl) (star_cons hs2)).weak fun σ H Rk q => ?_
  obtain ⟨c, f, r, q⟩ := q
  rw [evI] at q
  refine ⟨c, f, r, q.bind.mono fun v f1 q w H1 r1 k1 rp _ => ⟨c, f1, r1, (Sat.move q k1).bind.mono fun v2 f2 q w2 H2 r2 k2 rp2 _ => ?_⟩⟩
  dsimp only at q
  split at q
  · obtain ⟨items, e, q⟩ := Sat.ofO q
    obtain ⟨rfl, h1, h2, h3, h4, h5⟩ := rngOk_some e
    simp only [Rep] at rp rp2
    subst rp rp2
    exact ⟨_, _, rfl, ⟨h1, h2, h3, h4⟩, q _ H2 r2 (k1.trans k2 fun _ z => .inl z) (rng_len h5) (itOk_r _ _)⟩
  · exact q.elim
theorem evI_zip {n : Str} {elts : List Expr} {kk : Nat} {tpos : Pos} (hn : n = Str.ofString "zip") (hg : Gl X n) (hm : X.mg (Str.ofString "zip") = none) (h : PE X a (rdE X.K ec Wx W x)) (h2 : PE X b (rdE X.K ec Wx W y)) (hs : noStar a = true) (hs2 : noStar b = true) :
    PI X (.Tuple elts kk tpos) (.Call (.Name n p) [a, b] [] pos) (rdI X.K ec Wx W (.zip x y)) := by
  subst hn
  refine (RZ.pi_zipA hg hm (pa_cons h (pa_cons h2 pa_nil (star_cons hs2)) (star_cons hs)) (star_cons hs) (star_any (by simp [hs2]))).weak fun σ H Rk q => ?_
  obtain ⟨c, f, r, q⟩ := q
  rw [evI] at q
  refine ⟨c, f, r, q.bind.mono fun v f1 q w H1 r1 k1 rp _ => ⟨c, f1, r1, (Sat.move q k1).bind.mono fun v2 f2 q w2 H2 r2 k2 rp2 _ => ?_⟩⟩
  obtain ⟨items, e, q⟩ := Sat.ofO q
  have rp := rp.go k2
  have k12 := k1.trans k2 fun _ z => .inl z
  dsimp only at e
  unfold zipOk at e
  split at e
  · cases e
    simp only [Rep] at rp rp2
    obtain ⟨p1, ws, rfl, q1, s1⟩ := rp
    obtain ⟨p2, us, rfl, q2, s2⟩ := rp2
    have z := q1.len r2.ln
    exact ⟨p1, p2, ws, us, rfl, .inl ⟨q1.lt.seq, q2.lt.seq, q _ H2 r2 k12 (by rw [zipL_len, ← s1.length]; omega) (itOk_zl q1 q2 s1 s2)⟩⟩
  · cases e
    simp only [Rep] at rp rp2
    obtain ⟨p1, ws, rfl, q1, s1⟩ := rp
    obtain ⟨p2, us, rfl, q2, s2⟩ := rp2
    have z := sqT_len q1 r2.ln
    exact ⟨p1, p2, ws, us, rfl, .inr ⟨q1, q2, q _ H2 r2 k12 (by rw [zipL_len, ← s1.length]; omega) (itOk_zt q1 q2 s1 s2)⟩⟩
  · cases e
theorem evI_enum {n : Str} {elts : List Expr} {kk : Nat} {tpos : Pos} (hn : n = Str.ofString "enumerate") (hg : Gl X n) (hm : X.mg (Str.ofString "enumerate") = none) (h : PE X a (rdE X.K ec Wx W x)) (hs : noStar a = true) :
    PI X (.Tuple elts kk tpos) (.Call (.Name n p) [a] [] pos) (rdI X.K ec Wx W (.enum x)) := by
  subst hn
  refine (pi_enA hg hm (pa_cons h pa_nil (star_cons hs)) (star_cons hs)).weak fun σ H Rk q => ?_
  obtain ⟨c, f, r, q⟩ := q
  rw [evI] at q
  refine ⟨c, f, r, q.bind.mono fun v f1 q w H1 r1 k1 rp _ => ?_⟩
  obtain ⟨items, e, q⟩ := Sat.ofO q
  cases v with
  | list vs =>
    cases e
    simp only [Rep] at rp
    obtain ⟨p, ws, rfl, q1, s1⟩ := rp
    exact ⟨p, ws, rfl, .inl ⟨q1.lt.seq, q _ H1 r1 k1 (by rw [enumL_len, ← s1.length]; exact q1.len r1.ln) (itOk_e q1 s1)⟩⟩
  | tuple vs =>
    cases e
    simp only [Rep] at rp
    obtain ⟨p, ws, rfl, q1, s1⟩ := rp
    exact ⟨p, ws, rfl, .inr ⟨q1, q _ H1 r1 k1 (by rw [enumL_len, ← s1.length]; exact sqT_len q1 r1.ln) (itOk_eT q1 s1)⟩⟩
  | none => cases e
  | bool _ => cases e
  | int _ => cases e
  | str _ => cases e
  | dict _ => cases e
end

/-! ### targets -/
mutual
def gOf (K : Frag) : Tg → TG
  | .sub i j => gSub (tVar i) (tVar j) rSetL
  | .name i => gName i
  | .tup ts => gTup K (lenTs ts) (gsOf K ts)
def gsOf (K : Frag) : Tgs → TGs
  | .nil => gNil
  | .cons t ts => gCons (gOf K t) (gsOf K ts)
def lenTs : Tgs → Nat
  | .nil => 0
  | .cons _ ts => lenTs ts + 1
end
theorem asgE_cons {e : Expr} {es : List Expr} {env : Env} (h : noStar e = true) : (assignEach (e :: es) env) = (false, assign e env) :: assignEach es env := by
  cases e <;> first | rfl | cases h
theorem asgE_len {N : List Str} {sc : Scope} {env : Env} : ∀ {ts : Tgs} {es : List Expr}, trTs N sc ts es = true → (assignEach es env).length = lenTs ts ∧ (assignEach es env).findIdx? (·.1) = none
  | .nil, [], _ => ⟨rfl, rfl⟩
  | .nil, _ :: _, h => by simp [trTs] at h
  | .cons _ _, [], h => by simp [trTs] at h
  | .cons t ts, e :: es, h => by
    simp only [trTs, Bool.and_eq_true] at h
    obtain ⟨h1, h2⟩ := asgE_len (env := env) h.2
    rw [asgE_cons h.1.2]
    refine ⟨by show _ + 1 = _ + 1; rw [h1], ?_⟩
    rw [List.findIdx?_cons]
    simp [h2]
theorem kindIs_some {sc : Scope} {x : Str} {k : NameKind} (h : kindIs sc x k = true) : sc.names.lookup x = some k := of_decide_eq_true h
theorem vis_ok {sc : Scope} {x : Str} (h : vis sc x = true) : Vis sc x := by
  simp only [vis, Bool.or_eq_true] at h
  rcases h with (h | h) | h
  · exact .inl (kindIs_some h)
  · exact .inr (.inl (kindIs_some h))
  · exact .inr (.inr (kindIs_some h))
theorem okName_ok {x : Str} (h : okName x = true) : (x == ("__debug__" : Str)) = false ∧ (x == ("__classdict__" : Str)) = false ∧ x ≠ "__name__" := by
  simp only [okName, Bool.and_eq_true, Bool.not_eq_true'] at h
  exact ⟨h.1.1, h.1.2, fun e => by rw [e] at h; simp at h⟩
section
variable {X : Cx}
mutual
theorem tgt {sc : Scope} (hN : X.N.Nodup) (hc : X.calm = true) (hl : ∀ x, isLoc sc x = true → Loc X.env.scope x ∧ (X.fn x = true ∨ X.env.scope.names.lookup x = some .local)) : ∀ (t : Tg) (e : Expr), (noSub t = true ∨ ∀ x, vis sc x = true → Vis X.env.scope x) → trT X.N sc t e = true → PG X e (gOf X.K t)
  | .sub i j, .Subscript (.Name x _) (.Name y _) _, hv, h => by
    simp only [trT, Bool.and_eq_true, decide_eq_true_eq] at h
    obtain ⟨⟨⟨⟨⟨a1, a2⟩, a3⟩, b1⟩, b2⟩, b3⟩ := h
    rcases hv with hv | hv
    · cases hv
    · obtain ⟨x1, x2, _⟩ := okName_ok a3
      obtain ⟨y1, y2, _⟩ := okName_ok b3
      simp only [gOf]
      exact pg_sub (pe_var a1 (hv x a2) x1 x2) (pe_var b1 (hv y b2) y1 y2) set_list (by intro u; rfl)
  | .name i, .Name x _, _, h => by
    simp only [trT, Bool.and_eq_true, decide_eq_true_eq] at h
    obtain ⟨h1, h2⟩ := hl x h.2
    simp only [gOf]
    exact pg_name hN h.1 h1 h2
  | .tup ts, .Tuple es k p, hv, h => by
    simp only [trT] at h
    obtain ⟨h1, h2⟩ := asgE_len (env := X.env) h
    simp only [gOf]
    exact pg_tup hc (tgts hN hc hl ts es (hv.imp (fun z => by simpa only [noSub] using z) id) h) h1 h2
theorem tgts {sc : Scope} (hN : X.N.Nodup) (hc : X.calm = true) (hl : ∀ x, isLoc sc x = true → Loc X.env.scope x ∧ (X.fn x = true ∨ X.env.scope.names.lookup x = some .local)) : ∀ (t : Tgs) (e : List Expr), (noSubs t = true ∨ ∀ x, vis sc x = true → Vis X.env.scope x) → trTs X.N sc t e = true → PGs X e (gsOf X.K t)
  | .nil, [], _, _ => by simp only [gsOf]; exact pgs_nil
  | .cons t ts, e :: es, hv, h => by
    simp only [trTs, Bool.and_eq_true] at h
    simp only [gsOf]
    have hv : (noSub t = true ∧ noSubs ts = true) ∨ ∀ x, vis sc x = true → Vis X.env.scope x := hv.imp (fun z => by simpa only [noSubs, Bool.and_eq_true] using z) id
    exact pgs_cons (tgt hN hc hl t e (hv.imp And.left id) h.1.1) (tgts hN hc hl ts es (hv.imp And.right id) h.2) (by rw [asgE_cons h.1.2]; rfl)
  | .nil, _ :: _, _, h => by simp [trTs] at h
  | .cons _ _, [], _, h => by simp [trTs] at h
end
end
theorem wipe_set {σ : L2.St} {i : Nat} {x : Option V} : ∀ {vs : List Nat}, i ∈ vs → wipe (σ.set i x) vs = wipe σ vs
  | [], h => by cases h
  | v :: vs, h => by
    simp only [wipe]
    by_cases hi : i ∈ vs
    · rw [wipe_set hi]
    · have : i = v := (List.mem_cons.mp h).resolve_right hi
      subst this
      have g : ∀ (vs : List Nat), wipe (σ.set i x) vs = (wipe σ vs).set i (if i ∈ vs then none else x) := by
        intro vs
        induction vs with
        | nil => simp [wipe]
        | cons u us ih =>
          simp only [wipe, ih]
          by_cases hu : u = i
          · subst hu
            simp [List.set_set]
          · rw [List.set_comm _ _ (show i ≠ u from fun z => hu z.symm)]
            congr 1
            by_cases hi : i ∈ us
            · simp [hi]
            · simp [hi, show ¬ i = u from fun z => hu z.symm]
      rw [g vs, List.set_set]
theorem wipe_wipe {σ : L2.St} : ∀ (us vs : List Nat), (∀ u ∈ us, u ∈ vs) → wipe (wipe σ us) vs = wipe σ vs
  | [], vs, _ => rfl
  | u :: us, vs, h => by
    simp only [wipe]
    rw [wipe_set (h u (List.mem_cons_self ..))]
    exact wipe_wipe us vs fun u hu => h u (List.mem_cons_of_mem _ hu)
/-- a slot takes a datum -/
theorem R.set {K : Frag} {c : Cf} {H : Hp} {σ : L2.St} {f : Frm} {i : Nat} {v : Dt} {w : V} (r : R K c H σ f) (hl : i < f.length) (ho : isOwn f i = false) (rp : Rep K c.zo H v w) : R K c H (σ.set i (some w)) (f.set i (.val v)) := by
  have hs : i < σ.length := by rw [r.len]; exact hl
  have ne : ∀ {j : Nat} {vs : List Dt}, (f.set i (.val v))[j]? = some (.own vs) → i ≠ j := fun {j vs} e z => by
    subst z
    rw [List.getElem?_set_self hl] at e
    cases e
  have no : c.O i = none := by
    cases q : c.O i with
    | none => rfl
    | some a =>
      obtain ⟨vs, e⟩ := r.ow i a q
      unfold isOwn at ho
      rw [e] at ho
      cases ho
  refine ⟨by rw [List.length_set, List.length_set]; exact r.len, r.ln, r.zt, fun j u e => ?_, fun j vs e => ?_, fun j a e => ?_, r.inj, r.zf⟩
  · by_cases hj : i = j
    · subst hj
      rw [List.getElem?_set_self hl] at e
      cases e
      exact ⟨w, by rw [List.getElem?_set_self hs], rp⟩
    · rw [List.getElem?_set_ne hj] at e
      rw [List.getElem?_set_ne hj]
      exact r.val j u e
  · have hj := ne e
    rw [List.getElem?_set_ne hj] at e
    obtain ⟨a, ws, e1, e2, e3, e4⟩ := r.own j vs e
    exact ⟨a, ws, e1, by rw [List.getElem?_set_ne hj]; exact e2, e3, e4⟩
  · have hj : i ≠ j := fun z => by subst z; rw [no] at e; cases e
    obtain ⟨vs, e2⟩ := r.ow j a e
    exact ⟨vs, by rw [List.getElem?_set_ne hj]; exact e2⟩
theorem asgs_len : ∀ {t : Tgs} {v : List Dt} {f f' : Frm}, asgs t v f = some f' → v.length = lenTs t
  | .nil, [], _, _, _ => rfl
  | .cons t ts, v :: vs, f, f', e => by
    simp only [asgs, Option.bind_eq_some_iff] at e
    obtain ⟨g, e1, e2⟩ := e
    show vs.length + 1 = lenTs ts + 1
    rw [asgs_len e2]
  | .nil, _ :: _, f, f', e => by simp [asgs] at e
  | .cons _ _, [], f, f', e => by simp [asgs] at e
mutual
theorem asg_red {K : Frag} {c : Cf} {H : Hp} : ∀ (t : Tg) (v : Dt) (w : V) (f f' : Frm) (σ : L2.St) (Q : L2.St → Hp → Prop), noSub t = true → asg t v f = some f' → Rep K c.zo H v w → R K c H σ f →
    (∀ σ', R K c H σ' f' → (∀ vs, tgIn vs t = true → wipe σ' vs = wipe σ vs) → Q σ' H) → gOf K t w σ H Q
  | .sub i j, v, w, f, f', σ, Q, z, e, rp, r, q => by cases z
  | .name i, v, w, f, f', σ, Q, _, e, rp, r, q => by
    simp only [asg] at e
    split at e
    · cases e
    · rename_i hh
      cases e
      simp only [Bool.or_eq_true, decide_eq_true_eq, not_or, Bool.not_eq_true] at hh
      simp only [gOf]
      refine q _ (r.set (by omega) hh.1 rp) fun vs hv => ?_
      simp only [tgIn] at hv
      exact wipe_set (by simpa using hv)
  | .tup ts, v, w, f, f', σ, Q, z, e, rp, r, q => by
    cases v with
    | tuple us =>
      simp only [asg] at e
      simp only [Rep] at rp
      obtain ⟨a, ws, rfl, q1, s1⟩ := rp
      simp only [gOf]
      exact ⟨a, ws, rfl, q1, by rw [s1.length]; exact asgs_len e, asgs_red ts us ws f f' σ Q (by simpa only [noSub] using z) e s1 r fun σ' r' h => q σ' r' fun vs hv => h vs (by simpa only [tgIn] using hv)⟩
    | none => simp [asg] at e
    | bool _ => simp [asg] at e
    | int _ => simp [asg] at e
    | str _ => simp [asg] at e
    | list _ => simp [asg] at e
    | dict _ => simp [asg] at e
theorem asgs_red {K : Frag} {c : Cf} {H : Hp} : ∀ (t : Tgs) (v : List Dt) (w : List V) (f f' : Frm) (σ : L2.St) (Q : L2.St → Hp → Prop), noSubs t = true → asgs t v f = some f' → Reps K c.zo H v w → R K c H σ f →
    (∀ σ', R K c H σ' f' → (∀ vs, tgsIn vs t = true → wipe σ' vs = wipe σ vs) → Q σ' H) → gsOf K t w σ H Q
  | .nil, [], w, f, f', σ, Q, _, e, rp, r, q => by
    simp only [asgs, Option.some.injEq] at e
    subst e
    simp only [Reps] at rp
    simp only [gsOf]
    exact ⟨rp, q σ r fun _ _ => rfl⟩
  | .cons t ts, v :: vs, w, f, f', σ, Q, z, e, rp, r, q => by
    simp only [noSubs, Bool.and_eq_true] at z
    simp only [asgs, Option.bind_eq_some_iff] at e
    obtain ⟨g, e1, e2⟩ := e
    simp only [Reps] at rp
    obtain ⟨w1, wr, rfl, p1, p2⟩ := rp
    simp only [gsOf]
    refine ⟨w1, wr, rfl, asg_red t v w1 f g σ _ z.1 e1 p1 r fun σ1 r1 h1 => asgs_red ts vs wr g f' σ1 Q z.2 e2 p2 r1 fun σ2 r2 h2 => q σ2 r2 fun us hu => ?_⟩
    simp only [tgsIn, Bool.and_eq_true] at hu
    rw [h2 us hu.2, h1 us hu.1]
  | .nil, _ :: _, w, f, f', σ, Q, _, e, rp, r, q => by simp [asgs] at e
  | .cons _ _, [], w, f, f', σ, Q, _, e, rp, r, q => by simp [asgs] at e
end
mutual
theorem tgIn_sub {vs : List Nat} : ∀ (t : Tg), tgIn vs t = true → noSub t = true
  | .name _, _ => rfl
  | .sub _ _, h => by simp [tgIn] at h
  | .tup ts, h => by simp only [tgIn] at h; simp only [noSub]; exact tgsIn_sub ts h
theorem tgsIn_sub {vs : List Nat} : ∀ (t : Tgs), tgsIn vs t = true → noSubs t = true
  | .nil, _ => rfl
  | .cons t ts, h => by simp only [tgsIn, Bool.and_eq_true] at h; simp only [noSubs, Bool.and_eq_true]; exact ⟨tgIn_sub t h.1, tgsIn_sub ts h.2⟩
end
end Ev


set_option Elab.async false
set_option linter.all false
set_option maxRecDepth 100000
set_option maxHeartbeats 4000000
/-! Ev, part 11: comprehensions; every expression. -/
namespace Ev
open PySem L2 PyProof.Rows
open PySem.W (Frag)

theorem wipe_get {σ : L2.St} {i : Nat} : ∀ {vs : List Nat}, i ∉ vs → (wipe σ vs)[i]? = σ[i]?
  | [], _ => rfl
  | v :: vs, h => by
    simp only [List.mem_cons, not_or] at h
    simp only [wipe]
    rw [List.getElem?_set_ne (fun z => h.1 z.symm)]
    exact wipe_get h.2
theorem wipeF_len (f : Frm) : ∀ vs : List Nat, (wipeF f vs).length = f.length
  | [] => rfl
  | v :: vs => by simp only [wipeF, List.length_set]; exact wipeF_len f vs
theorem wipeF_get {f : Frm} {i : Nat} : ∀ {vs : List Nat}, i ∉ vs → (wipeF f vs)[i]? = f[i]?
  | [], _ => rfl
  | v :: vs, h => by
    simp only [List.mem_cons, not_or] at h
    simp only [wipeF]
    rw [List.getElem?_set_ne (fun z => h.1 z.symm)]
    exact wipeF_get h.2
theorem wipeF_no {f : Frm} {i : Nat} : ∀ {vs : List Nat}, i ∈ vs → i < f.length → (wipeF f vs)[i]? = some .no
  | [], h, _ => by cases h
  | v :: vs, h, hl => by
    simp only [wipeF]
    by_cases hv : v = i
    · subst hv
      rw [List.getElem?_set_self (by rw [wipeF_len]; exact hl)]
    · rw [List.getElem?_set_ne hv]
      exact wipeF_no ((List.mem_cons.mp h).resolve_left fun z => hv z.symm) hl
theorem backF_len (f g : Frm) : ∀ vs : List Nat, (backF f g vs).length = g.length
  | [] => rfl
  | v :: vs => by
    simp only [backF]
    split
    · rw [List.length_set]; exact backF_len f g vs
    · exact backF_len f g vs
theorem backF_get {f g : Frm} {i : Nat} : ∀ {vs : List Nat}, i ∉ vs → (backF f g vs)[i]? = g[i]?
  | [], _ => rfl
  | v :: vs, h => by
    simp only [List.mem_cons, not_or] at h
    simp only [backF]
    split
    · rw [List.getElem?_set_ne (fun z => h.1 z.symm)]
      exact backF_get h.2
    · exact backF_get h.2
theorem backF_in {f g : Frm} {i : Nat} : ∀ {vs : List Nat}, i ∈ vs → i < f.length → i < g.length → (backF f g vs)[i]? = f[i]?
  | [], h, _, _ => by cases h
  | v :: vs, h, hl, hg => by
    simp only [backF]
    by_cases hv : v = i
    · subst hv
      rw [List.getElem?_eq_getElem hl]
      dsimp only
      rw [List.getElem?_set_self (by rw [backF_len]; exact hg)]
    · have hm : i ∈ vs := (List.mem_cons.mp h).resolve_left fun z => hv z.symm
      split
      · rw [List.getElem?_set_ne hv]
        exact backF_in hm hl hg
      · exact backF_in hm hl hg
section
variable {K : Frag} {c : Cf} {H H1 : Hp} {σ : L2.St} {f : Frm} {vs : List Nat}
theorem any_own (h : vs.any (isOwn f) = false) : ∀ i ∈ vs, ∀ us, f[i]? ≠ some (.own us) := fun i hi us e => by
  have := List.any_eq_false.mp h i hi
  unfold isOwn at this
  rw [e] at this
  exact this rfl
theorem R.wipe (r : R K c H σ f) (h : ∀ i ∈ vs, ∀ us, f[i]? ≠ some (.own us)) : R K c H (L2.wipe σ vs) (wipeF f vs) := by
  have nin : ∀ {j : Nat} {s : Slot}, (wipeF f vs)[j]? = some s → s ≠ .no → j ∉ vs := fun {j s} e n hj => by
    have hl : j < f.length := by
      have := (List.getElem?_eq_some_iff.mp e).1
      rwa [wipeF_len] at this
    rw [wipeF_no hj hl] at e
    exact n (Option.some.inj e).symm
  refine ⟨by rw [wipe_length, wipeF_len]; exact r.len, r.ln, r.zt, fun j v e => ?_, fun j us e => ?_, fun j a e => ?_, r.inj, r.zf⟩
  · have hj := nin e (by simp)
    rw [wipeF_get hj] at e
    rw [wipe_get hj]
    exact r.val j v e
  · have hj := nin e (by simp)
    rw [wipeF_get hj] at e
    rw [wipe_get hj]
    exact r.own j us e
  · obtain ⟨us, e2⟩ := r.ow j a e
    have hj : j ∉ vs := fun z => h j z us e2
    exact ⟨us, by rw [wipeF_get hj]; exact e2⟩
/-- behind a comprehension -/
theorem R.back {cD : Cf} {ff : Frm} (r1 : R K c H1 σ f) (r : R K cD H (L2.wipe σ vs) ff) (h : ∀ i ∈ vs, ∀ us, f[i]? ≠ some (.own us)) (k : Kp c.zo H1 H) (hz : ∀ a, cD.zo a → c.zo a ∨ H1 a = none) (hO : cD.O = c.O) : R K cD H σ (backF f ff vs) := by
  have ll : ff.length = f.length := by rw [← r.len, wipe_length, r1.len]
  have own : ∀ {j : Nat} {us : List Dt}, (backF f ff vs)[j]? = some (.own us) → j ∉ vs := fun {j us} e hj => by
    have hl : j < ff.length := by
      have := (List.getElem?_eq_some_iff.mp e).1
      rwa [backF_len] at this
    rw [backF_in hj (by omega) hl] at e
    exact h j hj us e
  refine ⟨by rw [backF_len, ll, r1.len], r.ln, r.zt, fun j v e => ?_, fun j us e => ?_, fun j a e => ?_, r.inj, r.zf⟩
  · by_cases hj : j ∈ vs
    · have hl : j < ff.length := by
        have := (List.getElem?_eq_some_iff.mp e).1
        rwa [backF_len] at this
      rw [backF_in hj (by omega) hl] at e
      obtain ⟨w, e1, e2⟩ := r1.val j v e
      exact ⟨w, e1, Rep.keep k hz _ _ e2⟩
    · rw [backF_get hj] at e
      obtain ⟨w, e1, e2⟩ := r.val j v e
      rw [wipe_get hj] at e1
      exact ⟨w, e1, e2⟩
  · have hj := own e
    rw [backF_get hj] at e
    obtain ⟨a, ws, e1, e2, e3, e4⟩ := r.own j us e
    rw [wipe_get hj] at e2
    exact ⟨a, ws, e1, e2, e3, e4⟩
  · obtain ⟨us, e2⟩ := r1.ow j a (by rw [← hO]; exact e)
    have hj : j ∉ vs := fun z => h j z us e2
    obtain ⟨us', e3⟩ := r.ow j a e
    exact ⟨us', by rw [backF_get hj]; exact e3⟩
/-- a shut list changes -/
theorem R.updZ {D : Addr} {ys xs : List V} (r : R K c H σ f) (hD : c.Z D) (hl : H D = some (.lst xs)) (z : ys.length ≤ sizeLine) : R K c (upd H D (.lst ys)) σ f := by
  have k : Kp c.zo H (upd H D (.lst ys)) := ⟨fun a o e q => by
    by_cases ha : a = D
    · subst ha
      rw [hl] at e
      cases e
      exact (q.elim (fun n => n (.inl hD)) fun n => n xs rfl).elim
    · rw [upd_ne ha]; exact e, fun a e => by
    by_cases ha : a = D
    · subst ha; rw [upd_same]; simp
    · rw [upd_ne ha]; exact e⟩
  refine ⟨r.len, r.ln.upd fun us e => ?_, fun a e => ?_, fun j v e => ?_, fun j us e => ?_, r.ow, r.inj, r.zf⟩
  · rcases e with e | e
    · cases e; exact z
    · cases e
  · by_cases ha : a = D
    · subst ha; exact ⟨ys, upd_same⟩
    · rw [upd_ne ha]; exact r.zt a e
  · obtain ⟨w, e1, e2⟩ := r.val j v e
    exact ⟨w, e1, Rep.keep k (fun _ z => .inl z) _ _ e2⟩
  · obtain ⟨a, ws, e1, e2, e3, e4⟩ := r.own j us e
    have ha : a ≠ D := fun z => r.zf j a e1 (by rw [z]; exact hD)
    exact ⟨a, ws, e1, e2, by rw [upd_ne ha]; exact e3, Reps.keep k (fun _ z => .inl z) _ _ e4⟩
end
/-! ### the turns of a comprehension -/
/-- one turn -/
def stepC (W : Wd) (tg : Tg) (cs : Exs) (elt : Ex) (x : Dt) (g : Frm) : Res (Option Dt × Frm) := match asg tg x g with
  | none => .stuck
  | some g1 => match cs with
    | .nil => (evE W elt g1).noexc.bind fun y => .ok (some y.1, y.2)
    | .cons c _ => (evE W c g1).noexc.bind fun b => match b.1 with
      | .bool true => (evE W elt b.2).noexc.bind fun y => .ok (some y.1, y.2)
      | .bool false => .ok (none, b.2)
      | _ => .stuck
theorem bind_ok {α β : Type} {r : Res α} {g : α → Res β} {b : β} (h : r.bind g = .ok b) : ∃ a, r = .ok a ∧ g a = .ok b := by
  cases r with
  | ok a => exact ⟨a, rfl, h⟩
  | exc _ _ => cases h
  | stuck => cases h
theorem noexc_ok {α : Type} {r : Res α} {a : α} (h : r.noexc = .ok a) : r = .ok a := by
  cases r with
  | ok a => exact h
  | exc _ _ => cases h
  | stuck => cases h
def rdCs (K : Frag) (ec : Nat → Value) (Wx : WX) (W : Wd) : Exs → TT
  | .nil => tYes
  | .cons c _ => rdT K ec Wx W c
abbrev Wf : WX := fun _ _ _ _ => False
section
variable {K : Frag} {ec : Nat → Value} {Wx : WX} {W : Wd}
theorem comp_red {vs : List Nat} {tg : Tg} {it : Itx} {cs : Exs} {elt : Ex} {σ : L2.St} {H : Hp} {Q : VK} (hv : tgIn vs tg = true) (q : rdE K ec Wx W (.comp vs tg it cs elt) σ H Q) :
    tLc (rdI K ec Wx W it) (gOf K tg) (rdCs K ec Wf W cs) (rdE K ec Wf W elt) vs σ H Q := by
  obtain ⟨c, f, r, q⟩ := q
  rw [evE] at q
  refine ⟨c, f, r, q.bind.mono fun items f1 q J H1 r1 k1 hlen io D hD => ?_⟩
  dsimp only at q
  cases ho : vs.any (isOwn f1) with
  | true => rw [ho] at q; exact q.elim
  | false =>
    rw [ho] at q
    simp only [Bool.false_eq_true, if_false] at q
    have no := any_own ho
    cases hl : (compLoop vs (stepC W tg cs elt) items (wipeF f1 vs)).noexc with
    | stuck =>
      exact (show Sat K ec Wx c σ H ((compLoop vs (stepC W tg cs elt) items (wipeF f1 vs)).noexc.bind _) _ from q) |> fun q => by rw [hl] at q; exact q.elim
    | exc k g => cases h2 : compLoop vs (stepC W tg cs elt) items (wipeF f1 vs) <;> (rw [h2] at hl; cases hl)
    | ok res =>
      obtain ⟨full, ff⟩ := res
      have q : Sat K ec Wx c σ H ((compLoop vs (stepC W tg cs elt) items (wipeF f1 vs)).noexc.bind fun q => .ok (PyData.list q.1, backF f1 q.2 vs)) _ := q
      rw [hl] at q
      have hl := noexc_ok hl
      have zD : ∀ a, (c.plus D).zo a → c.zo a ∨ H1 a = none := fun a z => by
        rcases z with (z | z) | z
        · exact .inl (.inl z)
        · rw [z]; exact .inr hD
        · exact .inl (.inr z)
      have nD : ¬ c.oa D := fun ⟨i, e⟩ => by
        obtain ⟨xs, e'⟩ := r1.zoT (.inr ⟨i, e⟩)
        rw [hD] at e'; cases e'
      refine ⟨fun i m H => m = items.length - i ∧ i ≤ items.length ∧ ∃ fb acc va rest, R K (c.plus D) H (L2.wipe σ vs) fb ∧ H D = some (.lst acc) ∧ Reps K (c.plus D).zo H va acc ∧ acc.length ≤ i ∧ Kp c.oa H1 H ∧ compLoop vs (stepC W tg cs elt) (items.drop i) fb = .ok (rest, ff) ∧ va ++ rest = full, ⟨items.length, ?_⟩, ?_⟩
      · refine ⟨by omega, Nat.zero_le _, wipeF f1 vs, [], [], full, ?_, upd_same, by simp [Reps], Nat.le_refl _, Kp.new _ hD, by rw [List.drop_zero]; exact hl, rfl⟩
        have l0 : Len (upd H1 D (.lst [])) := r1.ln.upd fun xs e => by
          rcases e with e | e
          · cases e; exact Nat.zero_le _
          · cases e
        exact (r1.plus (Same.upd hD) l0 hD upd_same).wipe no
      · rintro i m Hi ⟨rfl, hi, fb, acc, va, rest, rb, hDi, rva, hacc, ki, hc, hfull⟩
        obtain ⟨igo, istop⟩ := io Hi (c.plus D).zo ki.zo zD rb.ln
        by_cases hlt : i < items.length
        · right
          have ei : items[i]? = some items[i] := List.getElem?_eq_getElem hlt
          obtain ⟨go, yl⟩ := igo i _ ei
          refine ⟨go, fun H' => ∃ fb acc va rest, R K (c.plus D) H' (L2.wipe σ vs) fb ∧ H' D = some (.lst acc) ∧ Reps K (c.plus D).zo H' va acc ∧ acc.length ≤ i + 1 ∧ Kp c.oa H1 H' ∧ compLoop vs (stepC W tg cs elt) (items.drop (i + 1)) fb = .ok (rest, ff) ∧ va ++ rest = full,
            fun H' n => ⟨items.length - (i + 1), by omega, rfl, hlt, n⟩, fun x H3 hy => ?_⟩
          obtain ⟨sm, l3, rx⟩ := yl x H3 hy
          rw [List.drop_eq_getElem_cons hlt, compLoop] at hc
          obtain ⟨⟨o, g2⟩, hs, hc⟩ := bind_ok hc
          obtain ⟨⟨rest', ff'⟩, hc', hc⟩ := bind_ok hc
          dsimp only at hc hc'
          cases hc
          have r3 := rb.same sm l3
          have hD3 := sm _ _ hDi
          have k3 : Kp c.oa H1 H3 := ki.trans (Kp.of_same (Y := c.oa) sm) fun _ z => .inl z
          have rva3 : Reps K (c.plus D).zo H3 va acc := Reps.keep (Kp.of_same sm) (fun _ z => .inl z) _ _ rva
          unfold stepC at hs
          cases ha : asg tg items[i] fb with
          | none => rw [ha] at hs; cases hs
          | some g1 =>
            rw [ha] at hs
            dsimp only at hs
            refine asg_red tg items[i] x fb g1 _ _ (tgIn_sub tg hv) ha rx r3 fun σ2 r4 hw => ⟨by rw [hw vs hv, wipe_wipe vs vs fun _ h => h], ?_⟩
            have hw2 : L2.wipe σ2 vs = L2.wipe σ vs := by rw [hw vs hv, wipe_wipe vs vs fun _ h => h]
            -- the end of a turn
            have fin : ∀ {g2 : Frm} {v : Dt} {y : V} {H4 : Hp}, R K (c.plus D) H4 σ2 g2 → Kp c.oa H3 H4 → Rep K (c.plus D).zo H4 v y → compLoop vs (stepC W tg cs elt) (items.drop (i + 1)) (wipeF g2 vs) = .ok (rest', ff) → va ++ (v :: rest') = full →
                ∃ acc, H4 D = some (.lst acc) ∧ acc.length < sizeLine ∧ ∃ fb acc', ∃ va rest, R K (c.plus D) (upd H4 D (.lst (acc ++ [y]))) (L2.wipe σ vs) fb ∧ upd H4 D (.lst (acc ++ [y])) D = some (.lst acc') ∧ Reps K (c.plus D).zo (upd H4 D (.lst (acc ++ [y]))) va acc' ∧
                  acc'.length ≤ i + 1 ∧ Kp c.oa H1 (upd H4 D (.lst (acc ++ [y]))) ∧ compLoop vs (stepC W tg cs elt) (items.drop (i + 1)) fb = .ok (rest, ff) ∧ va ++ rest = full := fun {g2 v y H4} r5 k5 rv hc' hf => by
              have hD4 : H4 D = some (.lst acc) := k5.st D _ hD3 (.inl nD)
              have hz : acc.length < sizeLine := by omega
              have no2 : ∀ j ∈ vs, ∀ us, g2[j]? ≠ some (.own us) := fun j hj us e => by
                obtain ⟨a, ws, e1, _⟩ := r5.own j us e
                obtain ⟨us', e2⟩ := r1.ow j a e1
                exact no j hj us' e2
              have r6 := r5.wipe no2
              rw [hw2] at r6
              have r7 := r6.updZ (D := D) (ys := acc ++ [y]) (.inr rfl) hD4 (by rw [List.length_append]; exact hz)
              have kk : Kp (c.plus D).zo H4 (upd H4 D (.lst (acc ++ [y]))) := ⟨fun a o e q => by
                by_cases ha : a = D
                · subst ha
                  rw [hD4] at e
                  cases e
                  exact (q.elim (fun n => n (.inl (.inr rfl))) fun n => n acc rfl).elim
                · rw [upd_ne ha]; exact e, fun a e => by
                by_cases ha : a = D
                · subst ha; rw [upd_same]; simp
                · rw [upd_ne ha]; exact e⟩
              have rva4 : Reps K (c.plus D).zo H4 va acc := Reps.keep (k5.weak (Y' := (c.plus D).zo) fun _ z => .inr z) (fun _ z => .inl z) _ _ rva3
              refine ⟨acc, hD4, hz, wipeF g2 vs, acc ++ [y], va ++ [v], rest', r7, upd_same, Reps.keep kk (fun _ z => .inl z) _ _ (rva4.append (.one rv)), by rw [List.length_append]; exact Nat.succ_le_succ hacc, ?_, hc', by rw [List.append_assoc]; exact hf⟩
              refine (k3.trans k5 fun _ z => .inl z).trans (Y' := (· = D)) ⟨fun a o e q => ?_, fun a e => ?_⟩ fun a z => by rw [z]; exact .inr hD
              · by_cases ha : a = D
                · subst ha
                  rw [hD4] at e
                  cases e
                  exact (q.elim (fun n => n rfl) fun n => n acc rfl).elim
                · rw [upd_ne ha]; exact e
              · by_cases ha : a = D
                · subst ha; rw [upd_same]; simp
                · rw [upd_ne ha]; exact e
            match cs, hs with
            | .nil, hs =>
              obtain ⟨⟨v, g3⟩, he, hs⟩ := bind_ok hs
              cases hs
              show rdE K ec Wf W elt σ2 H3 _
              refine ⟨c.plus D, g1, r4, ?_⟩
              rw [noexc_ok he]
              exact fun w H4 r5 k5 rv _ => fin r5 k5 rv hc' hfull
            | .cons cc _, hs =>
              obtain ⟨⟨v, g3⟩, he, hs⟩ := bind_ok hs
              refine ⟨c.plus D, g1, r4, ?_⟩
              rw [noexc_ok he]
              dsimp only at hs
              split at hs
              · obtain ⟨⟨u, g4⟩, he2, hs⟩ := bind_ok hs
                cases hs
                refine ⟨true, rfl, fun H4 r5 k5 => iteT ⟨c.plus D, g3, r5, ?_⟩⟩
                rw [noexc_ok he2]
                exact fun w H5 r6 k6 rv _ => fin r6 (k5.trans k6 fun _ z => .inl z) rv hc' hfull
              · cases hs
                refine ⟨false, rfl, fun H4 r5 k5 => iteF ?_⟩
                have hD4 : H4 D = some (.lst acc) := k5.st D _ hD3 (.inl nD)
                have no2 : ∀ j ∈ vs, ∀ us, g2[j]? ≠ some (Slot.own us) := fun j hj us e => by
                  obtain ⟨a, ws, e1, _⟩ := r5.own j us e
                  obtain ⟨us', e2⟩ := r1.ow j a e1
                  exact no j hj us' e2
                have r6 := r5.wipe no2
                rw [hw2] at r6
                exact ⟨wipeF g2 vs, acc, va, rest', r6, hD4, Reps.keep (k5.weak (Y' := (c.plus D).zo) fun _ z => .inr z) (fun _ z => .inl z) _ _ rva3, Nat.le_succ_of_le hacc, k3.trans k5 fun _ z => .inl z, hc', hfull⟩
              · cases hs
        · left
          have e : i = items.length := by omega
          subst e
          refine ⟨istop, ?_⟩
          rw [List.drop_length, compLoop] at hc
          cases hc
          rw [List.append_nil] at hfull
          subst hfull
          have rr := R.back r1 rb no ki.zo zD rfl
          refine q _ _ rr.unplus (k1.trans ki fun _ z => .inl z) ?_ fun _ us e => ?_
          · simp only [Rep]
            refine ⟨D, acc, rfl, .inl ⟨hDi, fun z => ?_⟩, Reps.keep (Kp.refl _ _) (fun a z => .inl (z.imp .inl id)) _ _ rva⟩
            rcases z with z | z
            · obtain ⟨xs, e⟩ := r1.zt D z
              rw [hD] at e; cases e
            · exact nD z
          · injection e with e
            subst e
            refine ⟨D, acc, rfl, k1.free hD, hDi, Reps.keep (Kp.refl _ _) (fun a z => .inl ?_) _ _ rva, rr⟩
            rcases z with (z | z) | z
            · exact .inl (.inl z)
            · exact .inr z
            · exact .inl (.inr z)
end
end Ev


set_option Elab.async false
set_option linter.all false
set_option maxRecDepth 100000
set_option maxHeartbeats 4000000
/-! Ev, part 11b: comprehensions with two for. -/
namespace Ev
open PySem L2 PyProof.Rows
open PySem.W (Frag)
/-- the first clause's test -/
def tstC (W : Wd) (cs : Exs) (g1 : Frm) : Res (Bool × Frm) := match cs with
  | .nil => .ok (true, g1)
  | .cons c _ => (evE W c g1).noexc.bind fun b => match b.1 with
    | .bool t => .ok (t, b.2)
    | _ => .stuck
/-- an outer turn -/
def stepO (W : Wd) (tg : Tg) (cs : Exs) (ws : List Nat) (tg2 : Tg) (it2 : Itx) (cs2 : Exs) (elt : Ex) (x : Dt) (g : Frm) : Res (List Dt × Frm) := match asg tg x g with
  | none => .stuck
  | some g1 => (tstC W cs g1).bind fun b => match b.1 with
    | false => .ok ([], b.2)
    | true => (evI W it2 b.2).noexc.bind fun q => (compLoop ws (stepC W tg2 cs2 elt) q.1 (wipeF q.2 ws)).noexc
theorem e_comp2 (W : Wd) (f : Frm) (vs tg it cs ws tg2 it2 cs2 elt) : evE W (.comp2 vs tg it cs ws tg2 it2 cs2 elt) f = (evI W it f).bind fun p =>
      if vs.any (isOwn p.2) then .stuck else
      (compOut vs (stepO W tg cs ws tg2 it2 cs2 elt) p.1 (wipeF p.2 vs)).noexc.bind fun q => if q.1.length ≤ cap then .ok (.list q.1, backF p.2 q.2 vs) else .stuck := by
  rw [evE]
  rfl
section
variable {K : Frag} {ec : Nat → Value} {Wx : WX} {W : Wd}
theorem tst_red {cs : Exs} {c : Cf} {σ : L2.St} {H : Hp} {g1 g2 : Frm} {b : Bool} {Q : Bool → Hp → Prop} (r : R K c H σ g1) (h : tstC W cs g1 = .ok (b, g2)) (q : ∀ H', R K c H' σ g2 → Kp c.oa H H' → Q b H') : rdCs K ec Wf W cs σ H Q := by
  cases cs with
  | nil =>
    cases h
    exact q H r (Kp.refl _ _)
  | cons cc cr =>
    obtain ⟨⟨v, g3⟩, he, h⟩ := bind_ok h
    refine ⟨c, g1, r, ?_⟩
    rw [noexc_ok he]
    dsimp only at h
    split at h
    · cases h
      exact ⟨b, rfl, fun H' r' k' => q H' r' k'⟩
    · cases h
theorem comp2_red {vs : List Nat} {tg : Tg} {it : Itx} {cs : Exs} {ws : List Nat} {tg2 : Tg} {it2 : Itx} {cs2 : Exs} {elt : Ex} {σ : L2.St} {H : Hp} {Q : VK} (hv : tgIn vs tg = true) (hw : tgIn ws tg2 = true) (hws : ∀ w ∈ ws, w ∈ vs) (q : rdE K ec Wx W (.comp2 vs tg it cs ws tg2 it2 cs2 elt) σ H Q) :
    tLc2 (rdI K ec Wx W it) (gOf K tg) (rdCs K ec Wf W cs) (rdI K ec Wf W it2) (gOf K tg2) (rdCs K ec Wf W cs2) (rdE K ec Wf W elt) vs ws σ H Q := by
  obtain ⟨c, f, r, q⟩ := q
  rw [e_comp2] at q
  refine ⟨c, f, r, q.bind.mono fun items f1 q J H1 r1 k1 hlen io D hD => ?_⟩
  dsimp only at q
  cases ho : vs.any (isOwn f1) with
  | true => rw [ho] at q; exact q.elim
  | false =>
  rw [ho] at q
  simp only [Bool.false_eq_true, if_false] at q
  have no := any_own ho
  cases hl : (compOut vs (stepO W tg cs ws tg2 it2 cs2 elt) items (wipeF f1 vs)).noexc with
  | stuck => rw [hl] at q; exact q.elim
  | exc k g => cases h2 : compOut vs (stepO W tg cs ws tg2 it2 cs2 elt) items (wipeF f1 vs) <;> (rw [h2] at hl; cases hl)
  | ok res =>
  obtain ⟨full, ff⟩ := res
  rw [hl] at q
  have hl := noexc_ok hl
  have q : Sat K ec Wx c σ H (if full.length ≤ cap then Res.ok (PyData.list full, backF f1 ff vs) else .stuck) _ := q
  by_cases hcap : full.length ≤ cap
  case neg => rw [if_neg hcap] at q; exact q.elim
  rw [if_pos hcap] at q
  have hsz : full.length ≤ sizeLine := Nat.le_trans hcap (Nat.le_of_eq line_cap)
  have zD : ∀ a, (c.plus D).zo a → c.zo a ∨ H1 a = none := fun a z => by
    rcases z with (z | z) | z
    · exact .inl (.inl z)
    · rw [z]; exact .inr hD
    · exact .inl (.inr z)
  have nD : ¬ c.oa D := fun ⟨i, e⟩ => by
    obtain ⟨xs, e'⟩ := r1.zoT (.inr ⟨i, e⟩)
    rw [hD] at e'; cases e'
  -- no slot of the block is an own list, in any frame that is met
  have noF : ∀ {g : Frm} {τ : L2.St} {Hg : Hp}, R K (c.plus D) Hg τ g → ∀ j ∈ vs, ∀ us, g[j]? ≠ some (Slot.own us) := fun {g τ Hg} rg j hj us e => by
    obtain ⟨a, _, e1, _⟩ := rg.own j us e
    obtain ⟨us', e2⟩ := r1.ow j a e1
    exact no j hj us' e2
  -- what is known between outer turns
  refine ⟨fun i m H => m = items.length - i ∧ i ≤ items.length ∧ ∃ fb acc va rest, R K (c.plus D) H (L2.wipe σ vs) fb ∧ H D = some (.lst acc) ∧ Reps K (c.plus D).zo H va acc ∧ Kp c.oa H1 H ∧ compOut vs (stepO W tg cs ws tg2 it2 cs2 elt) (items.drop i) fb = .ok (rest, ff) ∧ va ++ rest = full, ⟨items.length, ?_⟩, ?_⟩
  · refine ⟨by omega, Nat.zero_le _, wipeF f1 vs, [], [], full, ?_, upd_same, by simp [Reps], Kp.new _ hD, by rw [List.drop_zero]; exact hl, rfl⟩
    have l0 : Len (upd H1 D (.lst [])) := r1.ln.upd fun xs e => by
      rcases e with e | e
      · cases e; exact Nat.zero_le _
      · cases e
    exact (r1.plus (Same.upd hD) l0 hD upd_same).wipe no
  rintro i m Hi ⟨rfl, hi, fb, acc, va, rest, rb, hDi, rva, ki, hc, hfull⟩
  obtain ⟨igo, istop⟩ := io Hi (c.plus D).zo ki.zo zD rb.ln
  by_cases hlt : i < items.length
  case neg =>
    left
    have e : i = items.length := by omega
    subst e
    refine ⟨istop, ?_⟩
    rw [List.drop_length, compOut] at hc
    cases hc
    rw [List.append_nil] at hfull
    subst hfull
    have rr := R.back r1 rb no ki.zo zD rfl
    refine q _ _ rr.unplus (k1.trans ki fun _ z => .inl z) ?_ fun _ us e => ?_
    · simp only [Rep]
      refine ⟨D, acc, rfl, .inl ⟨hDi, fun z => ?_⟩, Reps.keep (Kp.refl _ _) (fun a z => .inl (z.imp .inl id)) _ _ rva⟩
      rcases z with z | z
      · obtain ⟨xs, e⟩ := r1.zt D z
        rw [hD] at e; cases e
      · exact nD z
    · injection e with e
      subst e
      refine ⟨D, acc, rfl, k1.free hD, hDi, Reps.keep (Kp.refl _ _) (fun a z => .inl ?_) _ _ rva, rr⟩
      rcases z with (z | z) | z
      · exact .inl (.inl z)
      · exact .inr z
      · exact .inl (.inr z)
  right
  have ei : items[i]? = some items[i] := List.getElem?_eq_getElem hlt
  obtain ⟨go, yl⟩ := igo i _ ei
  refine ⟨go, fun H' => ∃ fb acc va rest, R K (c.plus D) H' (L2.wipe σ vs) fb ∧ H' D = some (.lst acc) ∧ Reps K (c.plus D).zo H' va acc ∧ Kp c.oa H1 H' ∧ compOut vs (stepO W tg cs ws tg2 it2 cs2 elt) (items.drop (i + 1)) fb = .ok (rest, ff) ∧ va ++ rest = full,
    fun H' n => ⟨items.length - (i + 1), by omega, rfl, hlt, n⟩, fun x H3 hy => ?_⟩
  obtain ⟨sm, l3, rx⟩ := yl x H3 hy
  rw [List.drop_eq_getElem_cons hlt, compOut] at hc
  obtain ⟨⟨o, g2⟩, hs, hc⟩ := bind_ok hc
  obtain ⟨⟨rest', ff'⟩, hc', hc⟩ := bind_ok hc
  dsimp only at hc hc'
  cases hc
  have r3 := rb.same sm l3
  have hD3 := sm _ _ hDi
  have k3 : Kp c.oa H1 H3 := ki.trans (Kp.of_same (Y := c.oa) sm) fun _ z => .inl z
  have rva3 : Reps K (c.plus D).zo H3 va acc := Reps.keep (Kp.of_same sm) (fun _ z => .inl z) _ _ rva
  unfold stepO at hs
  cases ha : asg tg items[i] fb with
  | none => rw [ha] at hs; cases hs
  | some g1 =>
  rw [ha] at hs
  dsimp only at hs
  obtain ⟨⟨t, gt⟩, ht, hs⟩ := bind_ok hs
  dsimp only at hs
  refine asg_red tg items[i] x fb g1 _ _ (tgIn_sub tg hv) ha rx r3 fun σ2 r4 hwp => ?_
  have hw2 : L2.wipe σ2 vs = L2.wipe σ vs := by rw [hwp vs hv, wipe_wipe vs vs fun _ h => h]
  refine ⟨hw2, tst_red r4 ht fun H4 r5 k5 => ?_⟩
  have hD4 : H4 D = some (.lst acc) := k5.st D _ hD3 (.inl nD)
  have rva4 : Reps K (c.plus D).zo H4 va acc := Reps.keep (k5.weak (Y' := (c.plus D).zo) fun _ z => .inr z) (fun _ z => .inl z) _ _ rva3
  have k4 : Kp c.oa H1 H4 := k3.trans k5 fun _ z => .inl z
  cases t with
  | false =>
    cases hs
    refine iteF ⟨wipeF g2 vs, acc, va, rest', ?_, hD4, rva4, k4, hc', by rw [← hfull]; rfl⟩
    have r6 := r5.wipe (noF r5)
    rw [hw2] at r6
    exact r6
  | true =>
  dsimp only at hs
  obtain ⟨⟨items2, g3⟩, hi2, hs⟩ := bind_ok hs
  have hi2 := noexc_ok hi2
  have hs := noexc_ok hs
  dsimp only at hs
  refine iteT ⟨c.plus D, gt, r5, ?_⟩
  rw [hi2]
  intro J2 H5 r6 k6 hlen2 io2
  have hD5 : H5 D = some (.lst acc) := k6.st D _ hD4 (.inl nD)
  have rva5 : Reps K (c.plus D).zo H5 va acc := Reps.keep (k6.weak (Y' := (c.plus D).zo) fun _ z => .inr z) (fun _ z => .inl z) _ _ rva4
  have k56 : Kp c.oa H1 H5 := k4.trans k6 fun _ z => .inl z
  have nows : ∀ {g : Frm} {τ : L2.St} {Hg : Hp}, R K (c.plus D) Hg τ g → ∀ j ∈ ws, ∀ us, g[j]? ≠ some (Slot.own us) := fun rg j hj => noF rg j (hws j hj)
  -- what is known between inner turns
  refine ⟨fun j m H => m = items2.length - j ∧ j ≤ items2.length ∧ ∃ fb acc va rest, R K (c.plus D) H (L2.wipe σ2 ws) fb ∧ H D = some (.lst acc) ∧ Reps K (c.plus D).zo H va acc ∧ Kp c.oa H1 H ∧ Kp (c.plus D).zo H5 H ∧ compLoop ws (stepC W tg2 cs2 elt) (items2.drop j) fb = .ok (rest, g2) ∧ va ++ (rest ++ rest') = full,
    ⟨items2.length, by omega, Nat.zero_le _, wipeF g3 ws, acc, va, o, r6.wipe (nows r6), hD5, rva5, k56, Kp.refl _ _, by rw [List.drop_zero]; exact hs, hfull⟩, ?_⟩
  rintro j m2 Hj ⟨rfl, hj, fb2, acc2, va2, rest2, rb2, hDj, rvaj, kj, kj5, hc2, hfull2⟩
  obtain ⟨igo2, istop2⟩ := io2 Hj (c.plus D).zo kj5 (fun a z => .inl z) rb2.ln
  by_cases hlt2 : j < items2.length
  case neg =>
    left
    have e : j = items2.length := by omega
    subst e
    refine ⟨istop2, ?_⟩
    rw [List.drop_length, compLoop] at hc2
    cases hc2
    have r7 := rb2.wipe (noF rb2)
    rw [wipe_wipe ws vs hws, hw2] at r7
    exact ⟨wipeF g2 vs, acc2, va2, rest', r7, hDj, rvaj, kj, hc', hfull2⟩
  right
  have ej : items2[j]? = some items2[j] := List.getElem?_eq_getElem hlt2
  obtain ⟨go2, yl2⟩ := igo2 j _ ej
  refine ⟨go2, fun H => ∃ fb acc va rest, R K (c.plus D) H (L2.wipe σ2 ws) fb ∧ H D = some (.lst acc) ∧ Reps K (c.plus D).zo H va acc ∧ Kp c.oa H1 H ∧ Kp (c.plus D).zo H5 H ∧ compLoop ws (stepC W tg2 cs2 elt) (items2.drop (j + 1)) fb = .ok (rest, g2) ∧ va ++ (rest ++ rest') = full,
    fun H' n => ⟨items2.length - (j + 1), by omega, rfl, hlt2, n⟩, fun y H6 hy2 => ?_⟩
  obtain ⟨sm2, l6, ry⟩ := yl2 y H6 hy2
  rw [List.drop_eq_getElem_cons hlt2, compLoop] at hc2
  obtain ⟨⟨o2, g4⟩, hs2, hc2⟩ := bind_ok hc2
  obtain ⟨⟨rest3, g5⟩, hc2', hc2⟩ := bind_ok hc2
  dsimp only at hc2 hc2'
  cases hc2
  have r8 := rb2.same sm2 l6
  have hD6 := sm2 _ _ hDj
  have k8 : Kp c.oa H1 H6 := kj.trans (Kp.of_same (Y := c.oa) sm2) fun _ z => .inl z
  have k8z : Kp (c.plus D).zo H5 H6 := kj5.trans (Kp.of_same (Y := (c.plus D).zo) sm2) fun _ z => .inl z
  have rva6 : Reps K (c.plus D).zo H6 va2 acc2 := Reps.keep (Kp.of_same sm2) (fun _ z => .inl z) _ _ rvaj
  unfold stepC at hs2
  cases ha2 : asg tg2 items2[j] fb2 with
  | none => rw [ha2] at hs2; cases hs2
  | some h1 =>
  rw [ha2] at hs2
  dsimp only at hs2
  refine asg_red tg2 items2[j] y fb2 h1 _ _ (tgIn_sub tg2 hw) ha2 ry r8 fun σ3 r9 hwp2 => ?_
  have hw3 : L2.wipe σ3 ws = L2.wipe σ2 ws := by rw [hwp2 ws hw, wipe_wipe ws ws fun _ h => h]
  refine ⟨hw3, ?_⟩
  have hDw : ∀ {Hx : Hp} {a2 : List V}, Hx D = some (.lst a2) → ∀ a3 : List V, Kp (· = D) Hx (upd Hx D (.lst a3)) := fun {Hx a2} hx a3 => ⟨fun a ob e z => by
    by_cases hb : a = D
    · subst hb
      rw [hx] at e
      cases e
      exact (z.elim (fun n => n rfl) fun n => n a2 rfl).elim
    · rw [upd_ne hb]; exact e, fun a e => by
    by_cases hb : a = D
    · subst hb; rw [upd_same]; simp
    · rw [upd_ne hb]; exact e⟩
  -- the end of an inner turn with an item
  have fin : ∀ {g : Frm} {v : Dt} {z : V} {H7 : Hp}, R K (c.plus D) H7 σ3 g → Kp c.oa H6 H7 → Rep K (c.plus D).zo H7 v z → compLoop ws (stepC W tg2 cs2 elt) (items2.drop (j + 1)) (wipeF g ws) = .ok (rest3, g2) → va2 ++ ((v :: rest3) ++ rest') = full →
      ∃ acc, H7 D = some (.lst acc) ∧ acc.length < sizeLine ∧ ∃ fb acc' va rest, R K (c.plus D) (upd H7 D (.lst (acc ++ [z]))) (L2.wipe σ2 ws) fb ∧ upd H7 D (.lst (acc ++ [z])) D = some (.lst acc') ∧ Reps K (c.plus D).zo (upd H7 D (.lst (acc ++ [z]))) va acc' ∧
        Kp c.oa H1 (upd H7 D (.lst (acc ++ [z]))) ∧ Kp (c.plus D).zo H5 (upd H7 D (.lst (acc ++ [z]))) ∧ compLoop ws (stepC W tg2 cs2 elt) (items2.drop (j + 1)) fb = .ok (rest, g2) ∧ va ++ (rest ++ rest') = full := fun {g v z H7} ra ka rz hcc hf => by
    have hD7 : H7 D = some (.lst acc2) := ka.st D _ hD6 (.inl nD)
    have hz : acc2.length < sizeLine := by
      have e1 := rvaj.length
      have e2 := congrArg List.length hf
      rw [List.length_append, List.length_append, List.length_cons] at e2
      omega
    have rb := ra.wipe (nows ra)
    rw [hw3] at rb
    have rc := rb.updZ (D := D) (ys := acc2 ++ [z]) (.inr rfl) hD7 (by rw [List.length_append]; exact hz)
    have kD := hDw hD7 (acc2 ++ [z])
    have kk : Kp (c.plus D).zo H7 (upd H7 D (.lst (acc2 ++ [z]))) := kD.weak fun a e => by rw [e]; exact .inl (.inr rfl)
    have rva7 : Reps K (c.plus D).zo H7 va2 acc2 := Reps.keep (ka.weak (Y' := (c.plus D).zo) fun _ z => .inr z) (fun _ z => .inl z) _ _ rva6
    refine ⟨acc2, hD7, hz, wipeF g ws, acc2 ++ [z], va2 ++ [v], rest3, rc, upd_same, Reps.keep kk (fun _ z => .inl z) _ _ (rva7.append (.one rz)), ?_, (k8z.trans (ka.weak (Y' := (c.plus D).zo) fun _ z => .inr z) fun _ z => .inl z).trans kk fun _ z => .inl z, hcc, by rw [List.append_assoc]; exact hf⟩
    exact (k8.trans ka fun _ z => .inl z).trans kD fun a z => by rw [z]; exact .inr hD
  match cs2, hs2 with
  | .nil, hs2 =>
    obtain ⟨⟨v, g6⟩, he, hs2⟩ := bind_ok hs2
    cases hs2
    show rdE K ec Wf W elt σ3 H6 _
    refine ⟨c.plus D, h1, r9, ?_⟩
    rw [noexc_ok he]
    exact fun w H7 ra ka rz _ => fin ra ka rz hc2' hfull2
  | .cons cc _, hs2 =>
    obtain ⟨⟨v, g6⟩, he, hs2⟩ := bind_ok hs2
    refine ⟨c.plus D, h1, r9, ?_⟩
    rw [noexc_ok he]
    dsimp only at hs2
    split at hs2
    · obtain ⟨⟨u, g7⟩, he2, hs2⟩ := bind_ok hs2
      cases hs2
      refine ⟨true, rfl, fun H7 ra ka => iteT ⟨c.plus D, g6, ra, ?_⟩⟩
      rw [noexc_ok he2]
      exact fun w H8 rd kd rz _ => fin rd (ka.trans kd fun _ z => .inl z) rz hc2' hfull2
    · cases hs2
      refine ⟨false, rfl, fun H7 ra ka => iteF ?_⟩
      have hD7 : H7 D = some (.lst acc2) := ka.st D _ hD6 (.inl nD)
      have rd := ra.wipe (nows ra)
      rw [hw3] at rd
      exact ⟨wipeF g4 ws, acc2, va2, rest3, rd, hD7, Reps.keep (ka.weak (Y' := (c.plus D).zo) fun _ z => .inr z) (fun _ z => .inl z) _ _ rva6, k8.trans ka fun _ z => .inl z, k8z.trans (ka.weak (Y' := (c.plus D).zo) fun _ z => .inr z) fun _ z => .inl z, hc2', hfull2⟩
    · cases hs2
end
end Ev


set_option Elab.async false
set_option linter.all false
set_option maxRecDepth 100000
set_option maxHeartbeats 2000000
/-! EvZ: tuple(zip(a, b)) of two tuples. -/
namespace Ev
open PySem PySem.Spec PyProof.Rows L2 RZ
section
variable {prog : Program} {w : World} {A : Around} {E : Value → Shared → Prop} {s : Shared}
/-- a zip over two tuples, k pairs given out, the last one still held (or none yet) -/
structure ZT (us vs : Array Value) (z TI TO i j a b : Addr) (k : Nat) (h : Heap) : Prop where
  zr : IsZip h z TI TO .none ∨ ∃ T f oT, IsZipHeld h z TI TO T f ∧ h.get? T = some oT
  its : IsPair h TI (.ref i) (.ref j)
  two : ∃ x y, IsPair h TO x y
  one1 : h.IsTupleIter i a k
  one2 : h.IsTupleIter j b k
  tup1 : h.IsTuple a us
  tup2 : h.IsTuple b vs
section
variable {us vs : Array Value} {z TI TO i j a b : Addr} {k : Nat}
theorem ZT.move {h g : Heap} (t : ZT us vs z TI TO i j a b k h) (S : Addr) (hS : S ∉ [z, TI, TO, i, j, a, b]) (up : ∀ c o, c ≠ S → h.get? c = some o → g.get? c = some o) (al : ∀ c o, h.get? c = some o → ∃ o', g.get? c = some o') : ZT us vs z TI TO i j a b k g := by
  simp only [List.mem_cons, List.not_mem_nil, or_false, not_or] at hS
  obtain ⟨n1, n2, n3, n4, n5, n6, n7⟩ := hS
  refine ⟨?_, up _ _ (Ne.symm n2) t.its, ?_, t.one1.at fun o e => up _ o (Ne.symm n4) e, t.one2.at fun o e => up _ o (Ne.symm n5) e, ?_, ?_⟩
  · rcases t.zr with r | ⟨T, f, oT, r, hT⟩
    · exact .inl (up _ _ (Ne.symm n1) r)
    · obtain ⟨o', q⟩ := al _ _ hT
      exact .inr ⟨T, f, o', up _ _ (Ne.symm n1) r, q⟩
  · obtain ⟨x, y, q⟩ := t.two
    exact ⟨x, y, up _ _ (Ne.symm n3) q⟩
  · obtain ⟨o, e, r⟩ := t.tup1
    exact ⟨o, up _ _ (Ne.symm n6) e, r⟩
  · obtain ⟨o, e, r⟩ := t.tup2
    exact ⟨o, up _ _ (Ne.symm n7) e, r⟩
theorem held_item {T : Addr} {f : Bool} {oT : Obj} {x y : Value} {Q : Value → Shared → Prop} (D : ZipApart z TI TO i j a b) (hz : IsZipHeld s.heap z TI TO T f) (hT : s.heap.get? T = some oT) (hTI : IsPair s.heap TI (.ref i) (.ref j))
    (p1 : s.heap.IsTupleIter i a k) (p2 : s.heap.IsTupleIter j b k) (q1 : s.heap.IsTuple a us) (q2 : s.heap.IsTuple b vs) (hx : us[k]? = some x) (hy : vs[k]? = some y)
    (fin : ∀ g, IsZipHeld g z TI TO T true → g.IsTupleIter i a (k + 1) → g.IsTupleIter j b (k + 1) → IsPair g s.heap.objs.size x y → g.objs.size = s.heap.objs.size + 1 →
      (∀ c o, c ∉ [z, i, j] → s.heap.get? c = some o → g.get? c = some o) → Q (.ref s.heap.objs.size) { s with heap := g }) :
    wpAny (model prog w) A (Builtin.«zip.__next__» ⟨[.ref z], []⟩) (fun r s' => ∃ v, r = .done (.ret v) ∧ Q v s') E s := by
  show wpAny _ _ (field (.ref z) 2 >>= _) _ _ s
  apply wpAny_bind
  apply wpAny_field hz rfl (x := .bool false) rfl
  show wpAny _ _ (field (.ref z) 3 >>= _) _ _ s
  apply wpAny_bind
  apply wpAny_field hz rfl (x := .ref TI) rfl
  apply wpAny_bind
  apply wpAny_seqItems hTI rfl
  show wpAny _ _ (Builtin.SmallTypes.ownedTupleIsFree (.ref z) >>= _) _ _ s
  apply wpAny_bind
  apply wpAny_tupleHeld_zip hz hT
  intro g1 z1 b1
  simp only [Bool.false_eq_true, if_false]
  apply wpAny_bind
  rw [← Array.forIn_toList]
  simp only [List.forIn_cons, List.forIn_nil]
  apply wpAny_bind
  apply wpAny_bind
  apply wpAny_holding
  show wpAny _ _ (Builtin.SmallTypes.nextOf (.ref i) >>= _) _ _ _
  apply wpAny_bind
  apply nextOf_tuple_item (s := { s with heap := g1 }) (p1.extBut b1.extBut D.i1z) (q1.extBut b1.extBut D.l1z) hx
  intro g2 p1' b2
  apply wpAny_pure
  apply wpAny_pure
  apply wpAny_bind
  apply wpAny_bind
  apply wpAny_holding
  show wpAny _ _ (Builtin.SmallTypes.nextOf (.ref j) >>= _) _ _ _
  apply wpAny_bind
  apply nextOf_tuple_item (s := { s with heap := g2 }) ((p2.extBut b1.extBut D.i2z).extBut b2.extBut D.i12.symm) ((q2.extBut b1.extBut D.l2z).extBut b2.extBut D.l2i1) hy
  intro g3 p2' b3
  apply wpAny_pure
  apply wpAny_pure
  apply wpAny_pure
  show wpAny _ _ (newTuple [x, y] >>= _) _ _ _
  apply wpAny_bind
  refine wpAny_newTuple ?_
  have sz : g3.objs.size = s.heap.objs.size := by rw [b3.1, b2.1, b1.1]
  have stay : ∀ c o, c ∉ [z, i, j] → s.heap.get? c = some o → g3.get? c = some o := fun c o hc e => by
    simp only [List.mem_cons, List.not_mem_nil, or_false, not_or] at hc
    exact b3.extBut _ _ hc.2.2 (b2.extBut _ _ hc.2.1 (b1.extBut _ _ hc.1 e))
  have p1'' := p1'.extBut b3.extBut D.i12
  have z3 : IsZipHeld g3 z TI TO T true := b3.extBut _ _ D.i2z.symm (b2.extBut _ _ D.i1z.symm z1)
  apply wpAny_pure
  refine ⟨_, rfl, ?_⟩
  have nw : IsPair (g3.push { cls := .type "tuple", data := .seq #[x, y] }) g3.objs.size x y := Heap.get?_push_size _ rfl
  have sz' : (g3.push { cls := .type "tuple", data := .seq #[x, y] }).objs.size = g3.objs.size + 1 := Heap.size_push ..
  show Q (.ref g3.objs.size) _
  rw [sz] at nw sz' ⊢
  exact fin _ (Heap.get?_push_of_some _ z3) (p1''.at fun o e => Heap.get?_push_of_some _ e) (p2'.at fun o e => Heap.get?_push_of_some _ e) nw sz' fun c o hc e => Heap.get?_push_of_some _ (stay c o hc e)
theorem held_end {T : Addr} {f : Bool} {oT : Obj} {Q : Fin → Shared → Prop} (hh : A.handled = none) (D : ZipApart z TI TO i j a b) (hz : IsZipHeld s.heap z TI TO T f) (hT : s.heap.get? T = some oT) (hTI : IsPair s.heap TI (.ref i) (.ref j))
    (p1 : s.heap.IsTupleIter i a k) (p2 : s.heap.IsTupleIter j b k) (q1 : s.heap.IsTuple a us) (q2 : s.heap.IsTuple b vs) (no : us[k]? = none ∨ vs[k]? = none)
    (fin : ∀ g e, (∀ c o, c ∉ [z, i, j] → s.heap.get? c = some o → g.get? c = some o) → (∃ o, g.get? e = some o ∧ o.cls = .type "StopIteration") → E (.ref e) { s with heap := g }) :
    wpAny (model prog w) A (Builtin.«zip.__next__» ⟨[.ref z], []⟩) Q E s := by
  show wpAny _ _ (field (.ref z) 2 >>= _) _ _ s
  apply wpAny_bind
  apply wpAny_field hz rfl (x := .bool false) rfl
  show wpAny _ _ (field (.ref z) 3 >>= _) _ _ s
  apply wpAny_bind
  apply wpAny_field hz rfl (x := .ref TI) rfl
  apply wpAny_bind
  apply wpAny_seqItems hTI rfl
  show wpAny _ _ (Builtin.SmallTypes.ownedTupleIsFree (.ref z) >>= _) _ _ s
  apply wpAny_bind
  apply wpAny_tupleHeld_zip hz hT
  intro g1 z1 b1
  simp only [Bool.false_eq_true, if_false]
  apply wpAny_bind
  rw [← Array.forIn_toList]
  simp only [List.forIn_cons, List.forIn_nil]
  apply wpAny_bind
  apply wpAny_bind
  apply wpAny_holding
  show wpAny _ _ (Builtin.SmallTypes.nextOf (.ref i) >>= _) _ _ _
  apply wpAny_bind
  cases hx : us[k]? with
  | none =>
    apply nextOf_tuple_end (s := { s with heap := g1 }) hh (p1.extBut b1.extBut D.i1z) (q1.extBut b1.extBut D.l1z) hx
    intro g2 e b2 he
    refine fin g2 e (fun c o hc q => ?_) he
    simp only [List.mem_cons, List.not_mem_nil, or_false, not_or] at hc
    exact b2 _ _ hc.2.1 (b1.extBut _ _ hc.1 q)
  | some x =>
    have hy : vs[k]? = none := no.resolve_left (by rw [hx]; exact nofun)
    apply nextOf_tuple_item (s := { s with heap := g1 }) (p1.extBut b1.extBut D.i1z) (q1.extBut b1.extBut D.l1z) hx
    intro g2 p1' b2
    apply wpAny_pure
    apply wpAny_pure
    apply wpAny_bind
    apply wpAny_bind
    apply wpAny_holding
    show wpAny _ _ (Builtin.SmallTypes.nextOf (.ref j) >>= _) _ _ _
    apply wpAny_bind
    apply nextOf_tuple_end (s := { s with heap := g2 }) hh ((p2.extBut b1.extBut D.i2z).extBut b2.extBut D.i12.symm) ((q2.extBut b1.extBut D.l2z).extBut b2.extBut D.l2i1) hy
    intro g3 e b3 he
    refine fin g3 e (fun c o hc q => ?_) he
    simp only [List.mem_cons, List.not_mem_nil, or_false, not_or] at hc
    exact b3 _ _ hc.2.2 (b2.extBut _ _ hc.2.1 (b1.extBut _ _ hc.1 q))
/-- next, whether a pair is still held or not -/
theorem zt_item {x y : Value} {Q : Option Value → Shared → Prop} (D : ZipApart z TI TO i j a b) (t : ZT us vs z TI TO i j a b k s.heap) (hx : us[k]? = some x) (hy : vs[k]? = some y)
    (fin : ∀ g, ZT us vs z TI TO i j a b (k + 1) g → IsPair g s.heap.objs.size x y → (∀ c o, c ∉ [z, TI, TO, i, j] → s.heap.get? c = some o → g.get? c = some o) → s.heap.objs.size < g.objs.size → Q (some (.ref s.heap.objs.size)) { s with heap := g }) :
    wpAny (model prog w) A (pyNext (.ref z)) Q E s := by
  obtain ⟨x0, y0, hTO⟩ := t.two
  rcases t.zr with r | ⟨T, f, oT, r, hT⟩
  · refine pyNext_zipT_item D r t.its hTO t.one1 t.one2 t.tup1 t.tup2 hx hy fun g a1 a2 a3 a4 a5 a6 a7 => fin g ⟨.inr ⟨_, false, _, a1, a5⟩, a7 _ _ D.TIz D.TITO D.TIi1 D.TIi2 t.its, ⟨_, _, a2⟩, a3, a4, ?_, ?_⟩ a5 (fun c o hc e => ?_) (by omega)
    · obtain ⟨o, e, q⟩ := t.tup1
      exact ⟨o, a7 _ _ D.l1z D.l1TO D.l1i1 D.l1i2 e, q⟩
    · obtain ⟨o, e, q⟩ := t.tup2
      exact ⟨o, a7 _ _ D.l2z D.l2TO D.l2i1 D.l2i2 e, q⟩
    · simp only [List.mem_cons, List.not_mem_nil, or_false, not_or] at hc
      exact a7 c o hc.1 hc.2.2.1 hc.2.2.2.1 hc.2.2.2.2 e
  · have ty : s.TypeIs (.ref z) "zip" := ⟨_, r, rfl⟩
    unfold pyNext
    refine wpAny_bind (wpAny_attempt (wpAny_callSpecial?_slot (name := Str.ofString "__next__") ty F.slot_zip_next (wpAny_call_entry F.slot_zip_next ty F.entry_zip_next ?_ (F.args_zip_next_1 _))))
    refine held_item D r hT t.its t.one1 t.one2 t.tup1 t.tup2 hx hy fun g a1 a3 a4 a5 a6 a7 => wpAny_pure (fin g ⟨.inr ⟨T, true, ?_⟩, ?_, ⟨_, _, a7 _ _ ?_ hTO⟩, a3, a4, ?_, ?_⟩ a5 (fun c o hc e => a7 c o ?_ e) (by omega))
    · by_cases c1 : T = z
      · exact ⟨_, a1, by rw [c1]; exact a1⟩
      · by_cases c2 : T = i
        · obtain ⟨o, e, _⟩ := a3
          exact ⟨o, a1, by rw [c2]; exact e⟩
        · by_cases c3 : T = j
          · obtain ⟨o, e, _⟩ := a4
            exact ⟨o, a1, by rw [c3]; exact e⟩
          · exact ⟨oT, a1, a7 _ _ (by simp [c1, c2, c3]) hT⟩
    · exact a7 _ _ (by simp [D.TIz, D.TIi1, D.TIi2]) t.its
    · simp [D.TOz, D.TOi1, D.TOi2]
    · obtain ⟨o, e, q⟩ := t.tup1
      exact ⟨o, a7 _ _ (by simp [D.l1z, D.l1i1, D.l1i2]) e, q⟩
    · obtain ⟨o, e, q⟩ := t.tup2
      exact ⟨o, a7 _ _ (by simp [D.l2z, D.l2i1, D.l2i2]) e, q⟩
    · simp only [List.mem_cons, List.not_mem_nil, or_false, not_or] at hc ⊢
      exact ⟨hc.1, hc.2.2.2.1, hc.2.2.2.2⟩
theorem zt_end {Q : Option Value → Shared → Prop} (hh : A.handled = none) (D : ZipApart z TI TO i j a b) (t : ZT us vs z TI TO i j a b k s.heap) (no : us[k]? = none ∨ vs[k]? = none)
    (fin : ∀ g, (∀ c o, c ∉ [z, TI, TO, i, j] → s.heap.get? c = some o → g.get? c = some o) → Q none { s with heap := g }) : wpAny (model prog w) A (pyNext (.ref z)) Q E s := by
  obtain ⟨x0, y0, hTO⟩ := t.two
  rcases t.zr with r | ⟨T, f, oT, r, hT⟩
  · refine pyNext_zipT_end hh D r t.its hTO t.one1 t.one2 t.tup1 t.tup2 no fun g a7 => fin g fun c o hc e => ?_
    simp only [List.mem_cons, List.not_mem_nil, or_false, not_or] at hc
    exact a7 c o hc.1 hc.2.2.1 hc.2.2.2.1 hc.2.2.2.2 e
  · have ty : s.TypeIs (.ref z) "zip" := ⟨_, r, rfl⟩
    unfold pyNext
    refine wpAny_bind (wpAny_attempt (wpAny_callSpecial?_slot (name := Str.ofString "__next__") ty F.slot_zip_next (wpAny_call_entry F.slot_zip_next ty F.entry_zip_next ?_ (F.args_zip_next_1 _))))
    refine held_end hh D r hT t.its t.one1 t.one2 t.tup1 t.tup2 no fun g e a7 he => ?_
    obtain ⟨o, ho, hc⟩ := he
    refine wpAny_bind (wpAny_isInstance (T := "StopIteration") (b := true) ⟨o, ho, hc⟩ isSubtype_stop ?_)
    refine wpAny_pure (fin g fun c o hc e => a7 c o ?_ e)
    simp only [List.mem_cons, List.not_mem_nil, or_false, not_or] at hc ⊢
    exact ⟨hc.1, hc.2.2.2.1, hc.2.2.2.2⟩
end
end
end Ev


set_option Elab.async false
set_option linter.all false
set_option maxRecDepth 100000
set_option maxHeartbeats 2000000
/-! EvZ2: the pairs of a zip gathered, as the store of the walk sees it. -/
namespace Ev
open PySem PySem.Spec PyProof.Rows L2 RZ
theorem zip_nolen : typeLookup (.type "zip") "__len__" = pure none := am_miss_of_fast (by decide +kernel)
theorem zip_nohint : typeLookup (.type "zip") "__length_hint__" = pure none := am_miss_of_fast (by decide +kernel)
/-- what has been gathered: ps are the pairs' places -/
structure ZG (xs ys : List V) (H0 H : Hp) (ps : List Addr) : Prop where
  get : ∀ (j : Nat) (p : Addr), ps[j]? = some p → ∃ x y, xs[j]? = some x ∧ ys[j]? = some y ∧ H p = some (.tup [x, y])
  old : ∀ c o, H0 c = some o → H c = some o
  new : ∀ c o, H c = some o → H0 c = some o ∨ ∃ x y, o = .tup [x, y]
section
variable {X : Cx} {pins : List (Addr × Obj)} {σ : L2.St} {H0 : Hp} {xs ys : List V} {us vs : List Value} {z TI TO i j a b : Addr}
/-- the state of the gathering: S is the list under way -/
structure ZL (X : Cx) (pins : List (Addr × Obj)) (σ : L2.St) (H0 : Hp) (xs ys : List V) (us vs : List Value) (z TI TO i j a b S : Addr) (k : Nat) (acc : Array Value) (ps : List Addr) (s : Shared) : Prop where
  inv : ∃ H, Inv X pins σ H s ∧ (∀ c ∈ [S, z, TI, TO, i, j], FpOk X pins H c) ∧ ZG xs ys H0 H ps
  st : ZT us.toArray vs.toArray z TI TO i j a b k s.heap
  lst : ∃ c, s.heap.get? S = some { cls := .type "list", dict := none, data := .seq acc c, slots := #[] }
  acc : acc.toList = ps.map Value.ref
  len : ps.length = k
/-- .. and its end -/
def ZE (X : Cx) (pins : List (Addr × Obj)) (σ : L2.St) (H0 : Hp) (xs ys : List V) (S : Addr) (n : Nat) (acc : Array Value) (ps : List Addr) (s : Shared) : Prop :=
  (∃ H, Inv X pins σ H s ∧ ZG xs ys H0 H ps) ∧ (∃ c, s.heap.get? S = some { cls := .type "list", dict := none, data := .seq acc c, slots := #[] }) ∧ acc.toList = ps.map Value.ref ∧ ps.length = n
theorem fp_upd {H : Hp} {T c : Addr} {o : HO} (h : FpOk X pins H c) (ne : c ≠ T) : FpOk X pins (upd H T o) c := ⟨by rw [upd_ne ne]; exact h.1, h.2⟩
theorem ZG.push {H : Hp} {ps : List Addr} {T : Addr} {x y : V} (g : ZG xs ys H0 H ps) (hT : H T = none) (hx : xs[ps.length]? = some x) (hy : ys[ps.length]? = some y) : ZG xs ys H0 (upd H T (.tup [x, y])) (ps ++ [T]) := by
  have st : ∀ c o, H c = some o → upd H T (.tup [x, y]) c = some o := fun c o e => by rw [upd_ne (ne_of_none e hT)]; exact e
  refine ⟨fun j p hj => ?_, fun c o e => st c o (g.old c o e), fun c o e => ?_⟩
  · rcases Nat.lt_trichotomy j ps.length with q | q | q
    · rw [List.getElem?_append_left q] at hj
      obtain ⟨x', y', e1, e2, e3⟩ := g.get j p hj
      exact ⟨x', y', e1, e2, st _ _ e3⟩
    · subst q
      have e : T = p := by simpa using hj
      subst e
      exact ⟨x, y, hx, hy, upd_same⟩
    · rw [List.getElem?_eq_none (by rw [List.length_append, List.length_singleton]; omega)] at hj
      cases hj
  · by_cases q : c = T
    · subst q
      rw [upd_same] at e
      cases e
      exact .inr ⟨x, y, rfl⟩
    · rw [upd_ne q] at e
      exact g.new c o e
theorem z_loop {S : Addr} (D : ZipApart z TI TO i j a b) (hS : S ∉ [z, TI, TO, i, j, a, b]) (hx : Vals xs us) (hy : Vals ys vs) {n : Nat} (hn : n = min xs.length ys.length) (hz : n ≤ sizeLine) {A : Around} (hh : A.handled = none) (res : Value) {R : Result → Shared → Prop}
    (fin : ∀ s acc ps, ZE X pins σ H0 xs ys S n acc ps s → (R (.ok (.ret res)) s)) :
    ∀ (m k : Nat) (s : Shared) (acc : Array Value) (ps : List Addr), n - k = m → k ≤ n → ZL X pins σ H0 xs ys us vs z TI TO i j a b S k acc ps s → codeAny (model X.prog X.w) A (.builtin "list.extend.loop" ⟨[.ref S, .ref z, res], []⟩) R s := by
  have hSs : S ∉ [z, TI, TO, i, j] := fun q => hS (by
    simp only [List.mem_cons, List.not_mem_nil, or_false] at q ⊢
    rcases q with q | q | q | q | q <;> simp [q])
  have l1 := hx.length
  have l2 := hy.length
  intro m
  induction m with
  | zero =>
    intro k s acc ps hm hk L
    have e : k = n := by omega
    subst e
    refine codeAny_builtin F.entry_extend_loop ?_
    rw [Around.under_plainId F.plain_extend_loop _]
    show wpAny _ A.in1 (pyNext (.ref z) >>= _) _ _ s
    refine wpAny_bind (zt_end (A := A.in1) hh D L.st ?_ fun g hk => ?_)
    · by_cases q : xs.length ≤ ys.length
      · exact .inl (by simp; omega)
      · exact .inr (by simp; omega)
    · obtain ⟨H, I, Fp, G⟩ := L.inv
      obtain ⟨c, hc⟩ := L.lst
      exact wpAny_pure (fin { s with heap := g } acc ps ⟨⟨H, I.turnedL (t' := s.toks) (ch := [z, TI, TO, i, j]) (fun c o hb q => hk c o hb q) (fun c q => Fp c (List.mem_cons_of_mem _ q)), G⟩, ⟨c, hk _ _ hSs hc⟩, L.acc, L.len⟩)
  | succ m ih =>
    intro k s acc ps hm hk L
    obtain ⟨H, I, Fp, G⟩ := L.inv
    obtain ⟨cc, hc⟩ := L.lst
    have k1 : k < xs.length := by omega
    have k2 : k < ys.length := by omega
    obtain ⟨u, hu, ru⟩ := hx.get (List.getElem?_eq_getElem k1)
    obtain ⟨v, hv, rv⟩ := hy.get (List.getElem?_eq_getElem k2)
    refine codeAny_builtin F.entry_extend_loop ?_
    rw [Around.under_plainId F.plain_extend_loop _]
    show wpAny _ A.in1 (pyNext (.ref z) >>= _) _ _ s
    refine wpAny_bind (zt_item (A := A.in1) D L.st (x := u) (y := v) (by simpa using hu) (by simpa using hv) fun g st' pr keep big => ?_)
    have hc' := keep _ _ hSs hc
    have la := L.acc
    have ll := L.len
    have as : acc.size = k := by rw [← Array.length_toList, la, List.length_map, ll]
    have below : ∀ c ∈ [S, z, TI, TO, i, j], c ≠ s.heap.objs.size := fun c q => Nat.ne_of_lt (by
      have r1 := L.st.its
      obtain ⟨_, _, r2⟩ := L.st.two
      obtain ⟨_, r3, _⟩ := L.st.one1
      obtain ⟨_, r4, _⟩ := L.st.one2
      simp only [List.mem_cons, List.not_mem_nil, or_false] at q
      rcases q with q | q | q | q | q | q
      · rw [q]; exact Heap.lt_size hc
      · rw [q]
        rcases L.st.zr with r | ⟨_, _, _, r, _⟩
        · exact Heap.lt_size r
        · exact Heap.lt_size r
      · rw [q]; exact Heap.lt_size r1
      · rw [q]; exact Heap.lt_size r2
      · rw [q]; exact Heap.lt_size r3
      · rw [q]; exact Heap.lt_size r4)
    have hT : H s.heap.objs.size = none := I.hok.fresh (Nat.le_refl _)
    have ok : ObjOk X.prog X.w (upd H s.heap.objs.size (.tup [xs[k], ys[k]])) g s.heap.objs.size (.tup [xs[k], ys[k]]) := ⟨by show 2 ≤ sizeLine; decide, [u, v], .cons ru (.cons rv .nil), ⟨_, pr, rfl, _, rfl⟩⟩
    have I1 : Inv X pins σ (upd H s.heap.objs.size (.tup [xs[k], ys[k]])) { s with heap := g } := I.turnedNew (t' := s.toks) (ch := [z, TI, TO, i, j]) (fun c o hb q => keep c o hb q) (fun c q => Fp c (List.mem_cons_of_mem _ q)) (Nat.le_refl _) ok
    have F1 : ∀ c ∈ [S, z, TI, TO, i, j], FpOk X pins (upd H s.heap.objs.size (.tup [xs[k], ys[k]])) c := fun c q => fp_upd (Fp c q) (below c q)
    show wpAny _ A.in1 (updateSeq S (·.push (Value.ref s.heap.objs.size)) >>= _) _ _ _
    refine wpAny_bind ?_
    have oth : ∀ c o, c ≠ S → g.get? c = some o → (g.update S (Obj.mapSeq (·.push (Value.ref s.heap.objs.size)))).get? c = some o := fun c o ne e => (Heap.get?_update_other _ _ (Ne.symm ne)).trans e
    have slf := Heap.get?_update_self (Obj.mapSeq (·.push (Value.ref s.heap.objs.size))) hc' rfl
    refine wpAny_updateSeq hc' rfl (wpAny_pure ⟨plainId_quiet F.plain_extend_loop _, ih (k + 1) _ (acc.push (.ref s.heap.objs.size)) (ps ++ [s.heap.objs.size]) (by omega) (by omega) ⟨⟨_, I1.turnedL (t' := s.toks) (ch := [S]) (fun c o hb q => oth c o (fun z => hb (by simp [z])) q) (fun c q => F1 c (by rw [List.mem_singleton.mp q]; exact List.mem_cons_self)), F1, ?_⟩, ?_, ?_, ?_, ?_⟩⟩) ?_ ?_
    · exact G.push hT (by rw [ll]; exact List.getElem?_eq_getElem k1) (by rw [ll]; exact List.getElem?_eq_getElem k2)
    · refine st'.move S hS (fun c o ne e => oth c o ne e) fun c o e => ?_
      by_cases q : c = S
      · rw [q]; exact ⟨_, slf⟩
      · exact ⟨o, oth c o q e⟩
    · exact ⟨_, slf⟩
    · rw [Array.toList_push, la, List.map_append]; rfl
    · rw [List.length_append, ll]; rfl
    · rw [as]; omega
    · show (acc.push _).size ≤ sizeLine + 1
      rw [Array.size_push, as]; omega
end
end Ev


set_option Elab.async false
set_option linter.all false
set_option maxRecDepth 100000
set_option maxHeartbeats 2000000
/-! EvZ3: tuple(zip(a, b)) as a rule of the walk. -/
namespace Ev
open PySem PySem.Spec PyProof.Rows L2 RZ
section
variable {X : Cx} {pins : List (Addr × Obj)} {σ : L2.St} {H0 : Hp} {xs ys : List V} {us vs : List Value} {z TI TO i j a b : Addr} {s : Shared} {E : Value → Shared → Prop} {n : Nat}
theorem z_collect (D : ZipApart z TI TO i j a b) (hx : Vals xs us) (hy : Vals ys vs) (hn : n = min xs.length ys.length) (hz : n ≤ sizeLine) {A : Around} (hh : A.handled = none) (I : Inv X pins σ H0 s) (fp : ∀ c ∈ [z, TI, TO, i, j], FpOk X pins H0 c)
    (z0 : IsZip s.heap z TI TO .none) (t : ZT us.toArray vs.toArray z TI TO i j a b 0 s.heap) {Q : List Value → Shared → Prop} (hQ : ∀ s' ps H, Inv X pins σ H s' → ZG xs ys H0 H ps → ps.length = n → Q (ps.map Value.ref) s') : wpAny (model X.prog X.w) A (collect (.ref z)) Q E s := by
  have bz : z < s.heap.objs.size := by
    rcases t.zr with r | ⟨_, _, _, r, _⟩
    · exact Heap.lt_size r
    · exact Heap.lt_size r
  have low : ∀ c ∈ [z, TI, TO, i, j, a, b], c < s.heap.objs.size := fun c q => by
    have r1 := t.its
    obtain ⟨_, _, r2⟩ := t.two
    obtain ⟨_, r3, _⟩ := t.one1
    obtain ⟨_, r4, _⟩ := t.one2
    obtain ⟨_, r5, _⟩ := t.tup1
    obtain ⟨_, r6, _⟩ := t.tup2
    simp only [List.mem_cons, List.not_mem_nil, or_false] at q
    rcases q with q | q | q | q | q | q | q
    · rw [q]; exact bz
    · rw [q]; exact Heap.lt_size r1
    · rw [q]; exact Heap.lt_size r2
    · rw [q]; exact Heap.lt_size r3
    · rw [q]; exact Heap.lt_size r4
    · rw [q]; exact Heap.lt_size r5
    · rw [q]; exact Heap.lt_size r6
  have hS : s.heap.objs.size ∉ [z, TI, TO, i, j, a, b] := fun q => Nat.lt_irrefl _ (low _ q)
  have ne : s.heap.objs.size ≠ z := Nat.ne_of_gt bz
  have up : ∀ c o, s.heap.get? c = some o → (s.heap.push { cls := .type "list", data := .seq ([] : List Value).toArray }).get? c = some o := fun c o e => Heap.get?_push_of_some _ e
  have t1 := t.move (g := s.heap.push { cls := .type "list", data := .seq ([] : List Value).toArray }) s.heap.objs.size hS (fun c o _ e => up c o e) fun c o e => ⟨o, up c o e⟩
  have ty : ∀ {h : Heap} (k : Nat), ZT us.toArray vs.toArray z TI TO i j a b k h → ({ s with heap := h } : Shared).TypeIs (.ref z) "zip" := fun k q => by
    rcases q.zr with r | ⟨_, _, _, r, _⟩
    · exact ⟨_, r, rfl⟩
    · exact ⟨_, r, rfl⟩
  have fS : FpOk X pins H0 s.heap.objs.size := I.fpOk (Nat.le_refl _) (I.hok.fresh (Nat.le_refl _))
  unfold collect
  refine wpAny_bind (wpAny_runValue (codeAny_builtin F.entry_proto_collect (by
    rw [Around.under_plainId F.plain_proto_collect _]
    show wpAny _ A.in1 (newList [] >>= fun l => again (.builtin "list.__iadd__" ⟨[l, .ref z], []⟩)) _ _ s
    refine wpAny_bind (wpAny_newObj_type (wpAny_pure ⟨plainId_quiet F.plain_list_iadd _, codeAny_builtin F.entry_list_iadd ?_⟩))
    rw [Around.under_plainId F.plain_list_iadd _]
    show wpAny _ A.in1 (Builtin.List.listExtendWith (.ref s.heap.objs.size) (.ref z) (.ref s.heap.objs.size)) _ _ _
    unfold Builtin.List.listExtendWith
    refine wpAny_bind (wpAny_typeOf (ty 0 t1) ?_)
    have e1 : Builtin.List.listSameRef (.ref s.heap.objs.size) (.ref z) = false := by simp [Builtin.List.listSameRef, ne]
    have e2 : (Value.type "zip" == Value.type "list") = false := by decide
    have e3 : (Value.type "zip" == Value.type "tuple") = false := by decide
    simp only [e1, e2, e3, Bool.or_false, Bool.false_eq_true, if_false]
    refine wpAny_bind (wpAny_pyIter_zip (TI := TI) (TO := TO) (f0 := .none) ?_ (wpAny_bind (wpAny_holding ?_)))
    · exact up _ _ z0
    · unfold Builtin.List.listLengthHint
      refine wpAny_bind (wpAny_specialOf (ty 0 t1) zip_nolen ?_)
      show wpAny _ A.in1 (specialOf (Value.ref z) (Str.ofString "__length_hint__") >>= _) _ _ _
      refine wpAny_bind (wpAny_specialOf (ty 0 t1) zip_nohint (wpAny_pure ?_))
      show wpAny _ A.in1 (rule "list.extend.makes-room" >>= fun _ => Builtin.List.listTouch (.ref s.heap.objs.size) >>= fun _ => again (.builtin "list.extend.loop" ⟨[.ref s.heap.objs.size, .ref z, .ref s.heap.objs.size], []⟩)) _ _ _
      refine wpAny_bind (wpAny_rule (wpAny_bind ?_))
      have o1 : (s.heap.push { cls := .type "list", data := .seq ([] : List Value).toArray }).get? s.heap.objs.size = some { cls := .type "list", data := .seq ([] : List Value).toArray } := Heap.get?_push_size _ rfl
      have o2 := Heap.get?_update_self (Obj.mapSeq (·.push Value.none)) o1 rfl
      have o3 := Heap.get?_update_self (Obj.mapSeq (·.pop)) o2 rfl
      have oth : ∀ c o, c ≠ s.heap.objs.size → (s.heap.push { cls := .type "list", data := .seq ([] : List Value).toArray }).get? c = some o →
          (((s.heap.push { cls := .type "list", data := .seq ([] : List Value).toArray }).update s.heap.objs.size (Obj.mapSeq (·.push Value.none))).update s.heap.objs.size (Obj.mapSeq (·.pop))).get? c = some o := fun c o n e => by
        rw [Heap.get?_update_other _ _ (Ne.symm n), Heap.get?_update_other _ _ (Ne.symm n)]; exact e
      show wpAny _ A.in1 (updateSeq s.heap.objs.size (·.push .none) >>= fun _ => updateSeq s.heap.objs.size (·.pop)) _ _ _
      refine wpAny_bind (wpAny_updateSeq o1 rfl (wpAny_updateSeq o2 rfl (wpAny_pure ⟨plainId_quiet F.plain_extend_loop _, ?_⟩)))
      refine z_loop (pins := pins) (σ := σ) (H0 := H0) (n := n) (S := s.heap.objs.size) D hS hx hy hn hz hh _ (fun s' acc ps e => ?_) n 0 _ #[] [] rfl (Nat.zero_le _) ⟨⟨H0, ?_, fun c q => ?_, ⟨fun j p q => by simp at q, fun _ _ e => e, fun _ _ e => .inl e⟩⟩, ?_, ⟨_, o3⟩, rfl, rfl⟩
      · obtain ⟨⟨H, I', G⟩, ⟨c, hc⟩, h1, h2⟩ := e
        show wpAny _ A (load s.heap.objs.size >>= _) _ _ s'
        refine wpAny_bind (wpAny_load hc (wpAny_pure ?_))
        show Q acc.toList s'
        rw [h1]
        exact hQ s' ps H I' G h2
      · have I1 := I.turnedL (h' := (((s.heap.push { cls := .type "list", data := .seq ([] : List Value).toArray }).update s.heap.objs.size (Obj.mapSeq (·.push Value.none))).update s.heap.objs.size (Obj.mapSeq (·.pop)))) (t' := s.toks) (ch := [s.heap.objs.size]) (fun c o hb e => oth c o (fun q => hb (by simp [q])) (up c o e)) fun c q => by rw [List.mem_singleton.mp q]; exact fS
        exact I1
      · rcases List.mem_cons.mp q with q | q
        · rw [q]; exact fS
        · exact fp c q
      · refine t1.move s.heap.objs.size hS (fun c o n e => oth c o n e) fun c o e => ?_
        by_cases q : c = s.heap.objs.size
        · rw [q]; exact ⟨_, o3⟩
        · exact ⟨o, oth c o q e⟩)))
end
end Ev


set_option Elab.async false
set_option linter.all false
set_option maxRecDepth 100000
set_option maxHeartbeats 400000
/-! EvZ4: tuple(zip(a, b)), the call and the rule. -/
namespace Ev
open PySem PySem.Spec PyProof.Rows L2 RZ
section
variable {X : Cx} {pins : List (Addr × Obj)} {σ : L2.St} {H0 : Hp} {xs ys : List V} {us vs : List Value} {z TI TO i j a b : Addr} {s : Shared} {E : Value → Shared → Prop} {n : Nat}
theorem z_code (D : ZipApart z TI TO i j a b) (hx : Vals xs us) (hy : Vals ys vs) (hn : n = min xs.length ys.length) (hz : n ≤ sizeLine) {A : Around} (hh : A.handled = none) (I : Inv X pins σ H0 s) (fp : ∀ c ∈ [z, TI, TO, i, j], FpOk X pins H0 c)
    (z0 : IsZip s.heap z TI TO .none) (t : ZT us.toArray vs.toArray z TI TO i j a b 0 s.heap) {Q : Value → Shared → Prop}
    (hQ : ∀ s' ps H, Inv X pins σ H s' → ZG xs ys H0 H ps → ps.length = n → Q (.ref s'.heap.objs.size) { s' with heap := s'.heap.push { cls := .type "tuple", data := .seq (ps.map Value.ref).toArray } }) :
    codeAny (model X.prog X.w) A (.call (.builtin "tuple.__new__") ⟨[.type "tuple", .ref z], []⟩) (wants Q E) s := by
  refine codeAny_of_tree ?_
  show wpAny _ A.in1 (checkBuiltinCall "tuple.__new__" ⟨[.type "tuple", .ref z], []⟩ >>= fun _ => again (.builtin "tuple.__new__" ⟨[.type "tuple", .ref z], []⟩)) _ _ s
  refine wpAny_bind (wpAny_of_eq (F.newCall_tuple_1 _) (wpAny_pure ⟨plainId_quiet F.plain_tuple_new _, codeAny_builtin F.entry_tuple_new (by
    rw [Around.under_plainId F.plain_tuple_new _]
    have f1 := sub_tuple_self
    have f2 := init_tuple_lookup
    have f3 := madeHere_tuple
    have ty : s.TypeIs (.ref z) "zip" := ⟨_, z0, rfl⟩
    have hh1 : A.in1.handled = none := hh
    wp_walk using wpAny_typeOf ty, z_collect (A := A.in1) D hx hy hn hz hh1 I fp z0 t
    intro s' ps H I' G hl
    show wpAny _ _ (Builtin.Tuple.tupleExact (ps.map Value.ref).toArray >>= fun v => ret v) _ _ _
    unfold Builtin.Tuple.tupleExact
    exact wpAny_bind (wpAny_newObj_type (wpAny_pure (hQ s' ps H I' G hl)) (by show (ps.map Value.ref).toArray.size ≤ sizeLine; rw [List.size_toArray, List.length_map, hl]; exact hz)))⟩))
theorem z_call (D : ZipApart z TI TO i j a b) (hx : Vals xs us) (hy : Vals ys vs) (hn : n = min xs.length ys.length) (hz : n ≤ sizeLine) {A : Around} (hh : A.handled = none) (I : Inv X pins σ H0 s) (fp : ∀ c ∈ [z, TI, TO, i, j], FpOk X pins H0 c)
    (z0 : IsZip s.heap z TI TO .none) (t : ZT us.toArray vs.toArray z TI TO i j a b 0 s.heap) {Q : Value → Shared → Prop}
    (hQ : ∀ s' ps H, Inv X pins σ H s' → ZG xs ys H0 H ps → ps.length = n → Q (.ref s'.heap.objs.size) { s' with heap := s'.heap.push { cls := .type "tuple", data := .seq (ps.map Value.ref).toArray } }) :
    wpAny (model X.prog X.w) A (call (.type "tuple") [.ref z]) Q E s :=
  callType_codes (Q₁ := fun obj s₁ => s₁.TypeIs obj "tuple" ∧ Q obj s₁) F.called_tuple (F.typeCall_tuple_1 _) F.entry_object_init
    (z_code (A := A.in1) D hx hy hn hz hh I fp z0 t fun s' ps H I' G hl => ⟨⟨_, Heap.get?_push_size _ rfl, rfl⟩, hQ s' ps H I' G hl⟩)
    fun obj s₁ h₁ => ⟨h₁.1, F.args_object_init_2 obj _, object_init_meets F.called_tuple.init.lookup F.called_tuple.made (by decide) X.prog X.w A.in1 _ s₁ ⟨h₁.1, rfl, h₁.2⟩⟩
theorem vals_refs : ∀ ps : List Addr, Vals (ps.map V.ref) (ps.map Value.ref)
  | [] => .nil
  | p :: ps => .cons rfl (vals_refs ps)
end
/-- what tuple(zip(..)) hands on -/
def tTZ (K : PySem.W.Frag) (ta : TA) : TE := fun σ H Q => ta σ H fun ws H1 => ∃ (a b : Addr) (xs ys : List V), ws = [.ref a, .ref b] ∧ SqT K H1 a xs ∧ SqT K H1 b ys ∧
  ∀ q ps H2, ZG xs ys H1 H2 ps → ps.length = min xs.length ys.length → H2 q = none → Q (.ref q) (upd H2 q (.tup (ps.map V.ref)))
section
variable {X : Cx} {e e2 : Expr} {ta : TA}
theorem pe_tupZip {p p2 pos pos2 : Pos} (hc : X.calm = true) (hg : Gl X "tuple") (hm : X.mg "tuple" = none) (hg2 : Gl X "zip") (hm2 : X.mg "zip" = none) (ha : PA X [e, e2] ta)
    (hs : starEach [e, e2] X.env = (false, eval e X.env) :: starEach [e2] X.env) (hpl : (backTo pos2 (starEach [e2] X.env)).any (·.1) = false) :
    PE X (.Call (.Name "tuple" p) [.Call (.Name "zip" p2) [e, e2] [] pos2] [] pos) (tTZ X.K ta) := by
  refine ⟨fun pins s σ H Q I h => ?_⟩
  refine Call_ (ld_blt I hg hm boot_tuple (PyProof.Rows.callWith_type1 (PyProof.Rows.args_cons (thn (show wpAny (model X.prog X.w) X.A (eval (.Call (.Name "zip" p2) [e, e2] [] pos2) X.env) (fun v s' => ∃ (H1 : Hp) (a b z TI TO i j : Addr) (xs ys : List V) (us vs : List Value), v = .ref z ∧ Inv X pins σ H1 s' ∧ ZipApart z TI TO i j a b ∧ Vals xs us ∧ Vals ys vs ∧ xs.length ≤ sizeLine ∧ (∀ c ∈ [z, TI, TO, i, j], FpOk X pins H1 c) ∧ IsZip s'.heap z TI TO .none ∧
      ZT us.toArray vs.toArray z TI TO i j a b 0 s'.heap ∧ ∀ q ps H2, ZG xs ys H1 H2 ps → ps.length = min xs.length ys.length → H2 q = none → Q (.ref q) (upd H2 q (.tup (ps.map V.ref)))) X.xe s from ?_) fun v s1 r => PyProof.Rows.args_nil ?_) (by rfl)) (by rfl)))
  · refine Call_ (ld_blt I hg2 hm2 PyProof.Rows.boot_zip (PyProof.Rows.callWith_type1 (thn (ha.run pos2 pins s σ H _ I h) fun us s1 ⟨ws, H1, I1, r1, q1⟩ => ?_) hs hpl))
    obtain ⟨a, b, xs, ys, rfl, ka, kb, q⟩ := q1
    cases r1 with
    | cons r rr => cases rr with
    | cons r' rr =>
      cases rr
      cases r
      cases r'
      obtain ⟨its, rv, p1, sz1⟩ := I1.tuple ka
      obtain ⟨its2, rv2, p3, sz2⟩ := I1.tuple kb
      obtain ⟨o1, ho1, d1⟩ := id p1
      obtain ⟨o2, ho2, d2⟩ := id p3
      refine call_zipT (show s1.heap.IsTuple a its.toArray from p1) (show s1.heap.IsTuple b its2.toArray from p3) fun h' zz hTI hTO h1 h2 hsz hk => ?_
      refine ⟨H1, a, b, _, _, _, _, _, xs, ys, its, its2, rfl, I1.kept (t' := s1.toks) hk, PySem.W.ktu_apart s1.heap.objs.size a b (Heap.lt_size ho1) (Heap.lt_size ho2), rv, rv2, sz1, fun c hcm => ?_, zz, ⟨.inl zz, hTI, ⟨_, _, hTO⟩, h1, h2, ⟨o1, hk _ _ ho1, d1⟩, ⟨o2, hk _ _ ho2, d2⟩⟩, q⟩
      have big : s1.heap.objs.size ≤ c := by
        simp only [List.mem_cons, List.not_mem_nil, or_false] at hcm
        rcases hcm with w | w | w | w | w <;> rw [w] <;> omega
      exact I1.fpOk big (I1.hok.fresh big)
  · obtain ⟨H1, a, b, z, TI, TO, i, j, xs, ys, us, vs, rfl, I1, D, rv, rv2, sz, fp, z0, t, q⟩ := r
    refine z_call (A := X.A) D rv rv2 rfl (by omega) (I1.ok.hd hc) I1 fp z0 t fun s' ps H2 I2 G hl => ?_
    have I3 : Inv X pins σ (upd H2 s'.heap.objs.size (.tup (ps.map V.ref))) { s' with heap := s'.heap.push { cls := .type "tuple", data := .seq (ps.map Value.ref).toArray } } :=
      I2.laid (t' := s'.toks) (fun c o e => Heap.get?_push_of_some _ e) (Nat.le_refl _) ⟨by rw [List.length_map, hl]; omega, ps.map Value.ref, vals_refs ps, IsTup.new _ _⟩
    exact ⟨.ref s'.heap.objs.size, _, I3, rfl, q _ _ _ G hl (I2.hok.fresh (Nat.le_refl _))⟩
end
end Ev


set_option Elab.async false
set_option linter.all false
set_option maxRecDepth 100000
set_option maxHeartbeats 4000000
/-! Ev, part 12: every expression. -/
namespace Ev
open PySem L2 PyProof.Rows
open PySem.W (Frag)

theorem isB_ok {sc : Scope} {x : Str} {b : String} (h : isB sc x b = true) : x = Str.ofString b ∧ sc.names.lookup x = some .globalImplicit := by
  simp only [isB, Bool.and_eq_true, decide_eq_true_eq] at h
  exact ⟨h.1, kindIs_some h.2⟩
theorem plainIx {b : Expr} (h : noSlice b = true) : PlainIx b := by
  intro o i
  cases b <;> first | rfl | cases h
section
variable {X : Cx} {ec : Nat → Value} {Wx : WX} {W : Wd} {a b e : Expr} {x y : Ex} {T : Tab} {d : Nat} {sc : Scope}
/-- what is shown of an expression -/
structure All3 (X : Cx) (ec : Nat → Value) (Wx : WX) (W : Wd) (e : Expr) (x : Ex) : Prop where
  pe : PE X e (rdE X.K ec Wx W x)
  pt : PT X e (rdT X.K ec Wx W x)
  pp : PE X e (rdP X.K ec Wx W x)
theorem All3.of (h : PE X e (rdE X.K ec Wx W x)) (t : PT X e (rdT X.K ec Wx W x)) (n : ∀ i, x ≠ .var i) : All3 X ec Wx W e x := ⟨h, t, rdP_of h n⟩
theorem All3.pl (h : PE X e (rdE X.K ec Wx W x)) (t : plainTest e = true) (n : ∀ i, x ≠ .var i) : All3 X ec Wx W e x := ⟨h, testPlain h t, rdP_of h n⟩
theorem isN_red {o : Op} {neg : Bool} (ho : ∀ a, evOp o [a] = some (.bool (if neg then !isNon a else isNon a))) {K : Frag} {w : V} {H : Hp} {Q : VK} (hf : o.fr = false) (q : rO K o [w] H Q) : Q (.bl (if neg then !decide (w = .non) else decide (w = .non))) H := by
  obtain ⟨Z, ds, v, l, zt, rs, e, q⟩ := q
  obtain ⟨a, rfl, r⟩ := reps1 rs
  rw [ho] at e
  cases e
  have : decide (w = .non) = isNon a := by
    cases a with
    | none => rw [show w = .non from r]; rfl
    | bool _ => rw [show w = _ from r]; rfl
    | int _ => rw [show w = _ from r]; rfl
    | str _ => rw [show w = _ from r]; rfl
    | list _ => obtain ⟨p, ws, rfl, _⟩ := r; rfl
    | tuple _ =>
      simp only [RepT, Rep] at r
      obtain ⟨p, ws, rfl, _⟩ := r; rfl
    | dict _ => exact r.elim
  rw [this]
  exact bl_out q l
theorem isN_all {pos p2 : Pos} {j : Nat} (hx : PE X a (rdP X.K ec Wx W x)) : All3 X ec Wx W (.Compare a [.Is] [.Constant .none j p2] pos) (.op .isN (.cons x .nil)) := by
  have red : ∀ {σ : L2.St} {H : Hp} {Q : VK}, rdE X.K ec Wx W (.op .isN (.cons x .nil)) σ H Q → tOp (fun x y H Q => y = .non ∧ Q (.bl (decide (x = .non))) H) (rdP X.K ec Wx W x) (tC .non) σ H Q := fun {σ H Q} q => by
    obtain ⟨c, f, r, q⟩ := red1 q
    exact ⟨c, f, r, q.mono fun p f' q w H' r' k' rp => ⟨rfl, isN_red (o := .isN) (neg := false) (fun _ => rfl) rfl (q w H' r' k' rp)⟩⟩
  exact .of ((pe_cmpR op_isN hx pe_non (nomark _)).weak fun _ _ _ q => red q) ((pt_cmpR op_isN hx pe_non (nomark _)).weak fun _ _ _ q => red (toTest (t := tVar 0) q)) (fun _ => nofun)
theorem notN_all {pos p2 : Pos} {j : Nat} (hx : PE X a (rdP X.K ec Wx W x)) : All3 X ec Wx W (.Compare a [.IsNot] [.Constant .none j p2] pos) (.op .notN (.cons x .nil)) := by
  have red : ∀ {σ : L2.St} {H : Hp} {Q : VK}, rdE X.K ec Wx W (.op .notN (.cons x .nil)) σ H Q → tOp (fun x y H Q => y = .non ∧ Q (.bl (!decide (x = .non))) H) (rdP X.K ec Wx W x) (tC .non) σ H Q := fun {σ H Q} q => by
    obtain ⟨c, f, r, q⟩ := red1 q
    exact ⟨c, f, r, q.mono fun p f' q w H' r' k' rp => ⟨rfl, isN_red (o := .notN) (neg := true) (fun _ => rfl) rfl (q w H' r' k' rp)⟩⟩
  exact .of ((pe_cmpR op_notN hx pe_non (nomark _)).weak fun _ _ _ q => red q) ((pt_cmpR op_notN hx pe_non (nomark _)).weak fun _ _ _ q => red (toTest (t := tVar 0) q)) (fun _ => nofun)
theorem Gd.bl (g : Gd X T d ec) {b : String} (h : b ∈ ["len", "abs", "int", "sum", "all", "any", "min", "max", "sorted", "list", "tuple", "repr", "isinstance", "range", "zip", "enumerate", "bool", "str"] := by decide) : X.mg (Str.ofString b) = none := g.blt b h
theorem trB1_ok {n : String} {l : List Expr} (h : trB1 sc n e = some l) : ∃ m p a pos, e = .Call (.Name m p) [a] [] pos ∧ l = [a] ∧ isB sc m n = true ∧ noStar a = true := by
  unfold trB1 at h
  split at h
  · split at h
    · rename_i z
      rw [Bool.and_eq_true] at z
      exact ⟨_, _, _, _, rfl, (Option.some.inj h).symm, z.1, z.2⟩
    · cases h
  · cases h
theorem trB2_ok {n : String} {l : List Expr} (h : trB2 sc n e = some l) : ∃ m p a c pos, e = .Call (.Name m p) [a, c] [] pos ∧ l = [a, c] ∧ isB sc m n = true ∧ noStar a = true ∧ noStar c = true := by
  unfold trB2 at h
  split at h
  · split at h
    · rename_i z
      rw [Bool.and_eq_true, Bool.and_eq_true] at z
      exact ⟨_, _, _, _, _, rfl, (Option.some.inj h).symm, z.1.1, z.1.2, z.2⟩
    · cases h
  · cases h
theorem trBin_ok {p : Operator} {l : List Expr} (h : trBin p e = some l) : ∃ a b pos, e = .BinOp a p b pos ∧ l = [a, b] := by
  unfold trBin at h
  split at h
  · split at h
    · rename_i z
      exact ⟨_, _, _, by rw [z], (Option.some.inj h).symm⟩
    · cases h
  · cases h
theorem trCmp_ok {p : CmpOp} {l : List Expr} (h : trCmp p e = some l) : ∃ a b pos, e = .Compare a [p] [b] pos ∧ l = [a, b] ∧ behindInMarks p b = false := by
  unfold trCmp at h
  split at h
  · split at h
    · rename_i z
      exact ⟨_, _, _, by rw [z.1], (Option.some.inj h).symm, z.2⟩
    · cases h
  · cases h
theorem trIs_ok {p : CmpOp} {l : List Expr} (h : trIs p e = some l) : ∃ a j p2 pos, e = .Compare a [p] [.Constant .none j p2] pos ∧ l = [a] := by
  unfold trIs at h
  split at h
  · split at h
    · rename_i z
      exact ⟨_, _, _, _, by rw [z], (Option.some.inj h).symm⟩
    · cases h
  · cases h
theorem trNeg_ok {l : List Expr} (h : trNeg e = some l) : ∃ a pos, e = .UnaryOp .USub a pos ∧ l = [a] := by
  unfold trNeg at h
  split at h
  · exact ⟨_, _, rfl, (Option.some.inj h).symm⟩
  · cases h
theorem trIx_ok {l : List Expr} (h : trIx e = some l) : ∃ a b pos, e = .Subscript a b pos ∧ l = [a, b] ∧ noSlice b = true := by
  unfold trIx at h
  split at h
  · split at h
    · rename_i z
      exact ⟨_, _, _, rfl, (Option.some.inj h).symm, z⟩
    · cases h
  · cases h
theorem trIsI_ok {t : String} {l : List Expr} (h : trIsI sc t e = some l) : ∃ x p a y p2 pos, e = .Call (.Name x p) [a, .Name y p2] [] pos ∧ l = [a] ∧ isB sc x "isinstance" = true ∧ isB sc y t = true ∧ tyOk t = true ∧ noStar a = true := by
  unfold trIsI at h
  split at h
  · split at h
    · rename_i z
      simp only [Bool.and_eq_true] at z
      exact ⟨_, _, _, _, _, _, rfl, (Option.some.inj h).symm, z.1.1.1, z.1.1.2, z.1.2, z.2⟩
    · cases h
  · cases h
theorem trIsI2_ok {t u : String} {l : List Expr} (h : trIsI2 sc t u e = some l) : ∃ x p a y p2 z p3 k p4 pos, e = .Call (.Name x p) [a, .Tuple [.Name y p2, .Name z p3] k p4] [] pos ∧ l = [a] ∧ isB sc x "isinstance" = true ∧ isB sc y t = true ∧ isB sc z u = true ∧ tyOk t = true ∧ tyOk u = true ∧ noStar a = true := by
  unfold trIsI2 at h
  split at h
  · split at h
    · rename_i z
      simp only [Bool.and_eq_true] at z
      exact ⟨_, _, _, _, _, _, _, _, _, _, rfl, (Option.some.inj h).symm, z.1.1.1.1.1, z.1.1.1.1.2, z.1.1.1.2, z.1.1.2, z.1.2, z.2⟩
    · cases h
  · cases h
theorem trLrg1_ok {l : List Expr} (h : trLrg1 sc e = some l) : ∃ x p y p2 a pos2 pos, e = .Call (.Name x p) [.Call (.Name y p2) [a] [] pos2] [] pos ∧ l = [a] ∧ isB sc x "list" = true ∧ isB sc y "range" = true ∧ noStar a = true := by
  unfold trLrg1 at h
  split at h
  · split at h
    · rename_i z
      simp only [Bool.and_eq_true] at z
      exact ⟨_, _, _, _, _, _, _, rfl, (Option.some.inj h).symm, z.1.1, z.1.2, z.2⟩
    · cases h
  · cases h
theorem trLrg2_ok {l : List Expr} (h : trLrg2 sc e = some l) : ∃ x p y p2 a b pos2 pos, e = .Call (.Name x p) [.Call (.Name y p2) [a, b] [] pos2] [] pos ∧ l = [a, b] ∧ isB sc x "list" = true ∧ isB sc y "range" = true ∧ noStar a = true ∧ noStar b = true := by
  unfold trLrg2 at h
  split at h
  · split at h
    · rename_i z
      simp only [Bool.and_eq_true] at z
      exact ⟨_, _, _, _, _, _, _, _, rfl, (Option.some.inj h).symm, z.1.1.1, z.1.1.2, z.1.2, z.2⟩
    · cases h
  · cases h
theorem trTz_ok {l : List Expr} (h : trTz sc e = some l) : ∃ x p y p2 a b pos2 pos, e = .Call (.Name x p) [.Call (.Name y p2) [a, b] [] pos2] [] pos ∧ l = [a, b] ∧ isB sc x "tuple" = true ∧ isB sc y "zip" = true ∧ noStar a = true ∧ noStar b = true := by
  unfold trTz at h
  split at h
  · split at h
    · rename_i z
      simp only [Bool.and_eq_true] at z
      exact ⟨_, _, _, _, _, _, _, _, rfl, (Option.some.inj h).symm, z.1.1.1, z.1.1.2, z.1.2, z.2⟩
    · cases h
  · cases h
theorem trRev_ok {l : List Expr} (h : trRev e = some l) : ∃ a k p1 p2 p3 pos, e = .Subscript a (.Slice none none (some (.UnaryOp .USub (.Constant (.int 1) k p1) p2)) p3) pos ∧ l = [a] := by
  unfold trRev at h
  split at h
  · exact ⟨_, _, _, _, _, _, rfl, (Option.some.inj h).symm⟩
  · cases h
theorem rdP_mono {K : Frag} {σ : L2.St} {H : Hp} {Q Q' : VK} (q : rdP K ec Wx W x σ H Q) (h : ∀ w H', Q w H' → Q' w H') : rdP K ec Wx W x σ H Q' := by
  obtain ⟨c, f, r, q⟩ := q
  exact ⟨c, f, r, q.mono fun p f' q w H' r' k' rp => h _ _ (q w H' r' k' rp)⟩
theorem lrg_out {K : Frag} {Z : Addr → Prop} {H : Hp} {Q : VK} {m n : Int} {items : List Dt} (l : Len H) (zt : ∀ a, Z a → H a ≠ none) (e : rngOk m n = some items) (q : Out K Z H Q true (.list items)) : RgOk m n ∧ ∀ p, H p = none → Q (.ref p) (upd H p (.lst (rgV m n))) := by
  obtain ⟨rfl, h1, h2, h3, h4, h5⟩ := rngOk_some e
  refine ⟨⟨h1, h2, h3, h4, by omega⟩, fun p hp => ?_⟩
  have ea : rangeL m n = ((List.range (n - m).toNat).map fun k => m + ((k : Nat) : Int)).map PyData.int := by unfold rangeL; rw [List.map_map]; rfl
  have eb : rgV m n = ((List.range (n - m).toNat).map fun k => m + ((k : Nat) : Int)).map V.int := by unfold rgV; rw [List.map_map]; rfl
  refine q.newL l zt hp (by rw [ea, eb]; exact Reps.ofInts _) ?_
  rw [rgV_length, sizeLine_eq]
  omega
theorem tz_reps {K : Frag} {Z : Addr → Prop} {H : Hp} : ∀ {xs ys : List Dt} {ws us : List V} {ps : List Addr}, Reps K Z H xs ws → Reps K Z H ys us → ps.length = min ws.length us.length →
    (∀ (j : Nat) (p : Addr), ps[j]? = some p → ∃ x y, ws[j]? = some x ∧ us[j]? = some y ∧ H p = some (.tup [x, y])) → Reps K Z H (zipL xs ys) (ps.map V.ref)
  | [], _, ws, us, ps, h1, _, hl, _ => by
    simp only [Reps] at h1
    subst h1
    have : ps = [] := List.length_eq_zero_iff.mp (by rw [hl]; simp)
    subst this
    simp [zipL, Reps]
  | _ :: _, [], ws, us, ps, _, h2, hl, _ => by
    simp only [Reps] at h2
    subst h2
    have : ps = [] := List.length_eq_zero_iff.mp (by rw [hl]; simp)
    subst this
    simp [zipL, Reps]
  | x :: xs, y :: ys, ws, us, ps, h1, h2, hl, g => by
    simp only [Reps] at h1 h2
    obtain ⟨w, r, rfl, a1, a2⟩ := h1
    obtain ⟨u, t, rfl, b1, b2⟩ := h2
    cases ps with
    | nil => simp at hl
    | cons p ps =>
      have rest := tz_reps (ps := ps) a2 b2 (by simpa [Nat.succ_min_succ] using hl) fun j q e => g (j + 1) q (by simpa using e)
      obtain ⟨w', u', e1, e2, e3⟩ := g 0 p rfl
      cases e1
      cases e2
      rw [zipL, List.map_cons]
      simp only [Reps]
      refine ⟨_, _, rfl, ?_, rest⟩
      simp only [Rep, Reps]
      exact ⟨p, _, rfl, .inl (.inl e3), w, [u], rfl, a1, u, [], rfl, b1, rfl⟩
theorem tz_out {K : Frag} {H : Hp} {Q : VK} {w w2 : V} (q : rO K .tzip [w, w2] H Q) : ∃ (a b : Addr) (xs ys : List V), [w, w2] = [.ref a, .ref b] ∧ SqT K H a xs ∧ SqT K H b ys ∧
    ∀ q ps H2, ZG xs ys H H2 ps → ps.length = min xs.length ys.length → H2 q = none → Q (.ref q) (upd H2 q (.tup (ps.map V.ref))) := by
  obtain ⟨Z, ds, v, l, zt, rs, e, q⟩ := q
  obtain ⟨a, b, rfl, ra, rb⟩ := reps2 rs
  replace e : evTz a b = some v := e
  unfold evTz at e
  split at e
  · cases e
    simp only [RepT, Rep] at ra rb
    obtain ⟨p1, ws, rfl, q1, s1⟩ := ra
    obtain ⟨p2, us, rfl, q2, s2⟩ := rb
    have z1 := sqT_len q1 l
    refine ⟨p1, p2, ws, us, rfl, q1, q2, fun t ps H2 G hl ht => ?_⟩
    have sm : Same H (upd H2 t (.tup (ps.map V.ref))) := fun c o e => by rw [upd_ne (ne_of_none (G.old c o e) ht)]; exact G.old c o e
    have l2 : Len H2 := fun c xs e => by
      rcases e with e | e | ⟨o, e⟩
      · rcases G.new c _ e with r | ⟨_, _, r⟩
        · exact l c xs (.inl r)
        · cases r
      · rcases G.new c _ e with r | ⟨_, _, r⟩
        · exact l c xs (.inr (.inl r))
        · cases r; show 2 ≤ sizeLine; decide
      · rcases G.new c _ e with r | ⟨_, _, r⟩
        · exact l c xs (.inr (.inr ⟨o, r⟩))
        · cases r
    refine q _ _ sm (l2.upd fun xs e => ?_) ?_ nofun
    · rcases e with e | e
      · cases e
      · cases e; rw [List.length_map, hl]; omega
    · simp only [Rep]
      refine ⟨t, _, rfl, .inl (.inl upd_same), tz_reps (Reps.keep (Kp.of_same sm) (fun a z => .inl z) _ _ s1) (Reps.keep (Kp.of_same sm) (fun a z => .inl z) _ _ s2) hl fun j p e => ?_⟩
      obtain ⟨x, y, e1, e2, e3⟩ := G.get j p e
      exact ⟨x, y, e1, e2, by rw [upd_ne (ne_of_none e3 ht)]; exact e3⟩
  · cases e
theorem Reps.rev {K : Frag} {Z : Addr → Prop} {H : Hp} : ∀ {vs : List Dt} {ws : List V}, Reps K Z H vs ws → Reps K Z H vs.reverse ws.reverse
  | [], ws, h => by
    simp only [Reps] at h
    subst h
    simp [Reps]
  | v :: vs, ws, h => by
    simp only [Reps] at h
    obtain ⟨w, r, rfl, h1, h2⟩ := h
    rw [List.reverse_cons, List.reverse_cons]
    exact (Reps.rev h2).append (.one h1)
theorem b1 {o : Op} {n id : String} (hsc : X.env.scope = sc) (hm : X.mg (Str.ofString n) = none) (hv : bootBuiltins (Str.ofString n) = some (.builtin id)) (hn : Str.ofString n ≠ "__name__") (hd : (Str.ofString n == ("__debug__" : Str)) = false)
    (hc : CallR X (.builtin id) (fun xs H Q => rO X.K o xs H Q)) (h : trB1 sc n e = some [a]) (hx : PE X a (rdP X.K ec Wx W x)) : All3 X ec Wx W e (.op o (.cons x .nil)) := by
  obtain ⟨m, p, a', pos, rfl, e1, h1, h2⟩ := trB1_ok h
  cases e1
  obtain ⟨rfl, hg⟩ := isB_ok h1
  exact .pl (call1 (show X.env.scope.names.lookup _ = _ by rw [hsc]; exact hg) hm hv hn hd hx h2 hc) rfl (fun _ => nofun)
theorem b1T {o : Op} {n id : String} (hsc : X.env.scope = sc) (hm : X.mg (Str.ofString n) = none) (hv : bootBuiltins (Str.ofString n) = some (.type id)) (hn : Str.ofString n ≠ "__name__") (hd : (Str.ofString n == ("__debug__" : Str)) = false)
    (hc : CallR X (.type id) (fun xs H Q => rO X.K o xs H Q)) (h : trB1 sc n e = some [a]) (hx : PE X a (rdP X.K ec Wx W x)) : All3 X ec Wx W e (.op o (.cons x .nil)) := by
  obtain ⟨m, p, a', pos, rfl, e1, h1, h2⟩ := trB1_ok h
  cases e1
  obtain ⟨rfl, hg⟩ := isB_ok h1
  exact .pl (call1T (show X.env.scope.names.lookup _ = _ by rw [hsc]; exact hg) hm hv hn hd hx h2 hc) rfl (fun _ => nofun)
theorem b2 {o : Op} {n id : String} (hsc : X.env.scope = sc) (hm : X.mg (Str.ofString n) = none) (hv : bootBuiltins (Str.ofString n) = some (.builtin id)) (hn : Str.ofString n ≠ "__name__") (hd : (Str.ofString n == ("__debug__" : Str)) = false)
    (hc : CallR X (.builtin id) (fun xs H Q => rO X.K o xs H Q)) (h : trB2 sc n e = some [a, b]) (hx : PE X a (rdP X.K ec Wx W x)) (hy : PE X b (rdP X.K ec Wx W y)) : All3 X ec Wx W e (.op o (.cons x (.cons y .nil))) := by
  obtain ⟨m, p, a', c', pos, rfl, e1, h1, h2, h3⟩ := trB2_ok h
  cases e1
  obtain ⟨rfl, hg⟩ := isB_ok h1
  exact .pl (call2 (show X.env.scope.names.lookup _ = _ by rw [hsc]; exact hg) hm hv hn hd hx hy h2 h3 hc) rfl (fun _ => nofun)
theorem boot_ty {t : String} (h : tyOk t = true) : bootBuiltins (Str.ofString t) = some (.type t) ∧ Str.ofString t ≠ "__name__" ∧ (Str.ofString t == ("__debug__" : Str)) = false ∧
    t ∈ ["len", "abs", "int", "sum", "all", "any", "min", "max", "sorted", "list", "tuple", "repr", "isinstance", "range", "zip", "enumerate", "bool", "str"] := by
  have h2 : t = "int" ∨ t = "bool" ∨ t = "tuple" ∨ t = "list" ∨ t = "str" := by simpa [tyOk] using h
  rcases h2 with rfl | rfl | rfl | rfl | rfl <;> exact ⟨by decide +kernel, by decide +kernel, by decide +kernel, by decide⟩
/-- every operator of one argument -/
theorem op1_all (g : Gd X T d ec) (hsc : X.env.scope = sc) {o : Op} (h : trOp sc o e = some [a]) (hx : PE X a (rdP X.K ec Wx W x)) : All3 X ec Wx W e (.op o (.cons x .nil)) := by
  have hu := g.units
  cases o with
  | len => exact b1 (n := "len") hsc g.bl (by decide +kernel) (by decide +kernel) (by decide +kernel) cr_len h hx
  | abs => exact b1 (n := "abs") hsc g.bl (by decide +kernel) (by decide +kernel) (by decide +kernel) cr_abs h hx
  | toInt => exact b1T (n := "int") hsc g.bl (by decide +kernel) (by decide +kernel) (by decide +kernel) cr_toInt h hx
  | sum => exact b1 (n := "sum") hsc g.bl (by decide +kernel) (by decide +kernel) (by decide +kernel) (crx_sum g.calm) h hx
  | all => exact b1 (n := "all") hsc g.bl (by decide +kernel) (by decide +kernel) (by decide +kernel) (crx_all g.calm) h hx
  | any => exact b1 (n := "any") hsc g.bl (by decide +kernel) (by decide +kernel) (by decide +kernel) (crx_any g.calm) h hx
  | minL => exact b1 (n := "min") hsc g.bl (by decide +kernel) (by decide +kernel) (by decide +kernel) (crx_min g.calm) h hx
  | maxL => exact b1 (n := "max") hsc g.bl (by decide +kernel) (by decide +kernel) (by decide +kernel) (crx_max g.calm) h hx
  | sorted => exact b1 (n := "sorted") hsc g.bl (by decide +kernel) (by decide +kernel) (by decide +kernel) crx_sorted h hx
  | list => exact b1T (n := "list") hsc g.bl (by decide +kernel) (by decide +kernel) (by decide +kernel) crx_list h hx
  | tuple => exact b1T (n := "tuple") hsc g.bl (by decide +kernel) (by decide +kernel) (by decide +kernel) crx_tuple h hx
  | repr => exact b1 (n := "repr") hsc g.bl (by decide +kernel) (by decide +kernel) (by decide +kernel) (cr_repr g.gds (by omega)) h hx
  | neg =>
    obtain ⟨_, _, rfl, h⟩ := trNeg_ok (show trNeg e = some [a] from h)
    cases h
    refine .pl ((pe_un un_neg hx).weak fun σ H Q q => ?_) rfl (fun _ => nofun)
    obtain ⟨c, f, r, q⟩ := red1 q
    refine ⟨c, f, r, q.mono fun p f' q w H' r' k' rp => ?_⟩
    obtain ⟨Z, ds, v, l, zt, rs, e, q⟩ := q w H' r' k' rp
    obtain ⟨a, rfl, ra⟩ := reps1 rs
    obtain ⟨i, rfl, rfl⟩ := dInt1 (show evInt1 _ a = some v from e)
    exact ⟨i, ra, int_out q l⟩
  | isN =>
    obtain ⟨_, _, _, _, rfl, h⟩ := trIs_ok (show trIs .Is e = some [a] from h)
    cases h
    exact isN_all hx
  | notN =>
    obtain ⟨_, _, _, _, rfl, h⟩ := trIs_ok (show trIs .IsNot e = some [a] from h)
    cases h
    exact notN_all hx
  | isI t =>
    obtain ⟨_, _, _, _, _, _, rfl, h, g1, g2, ty, ns⟩ := trIsI_ok (show trIsI sc t e = some [a] from h)
    cases h
    obtain ⟨rfl, g1⟩ := isB_ok g1
    obtain ⟨rfl, g2⟩ := isB_ok g2
    obtain ⟨k1, k2, k3, k4⟩ := boot_ty ty
    exact .pl (callIs (show X.env.scope.names.lookup _ = _ by rw [hsc]; exact g1) g.bl (by decide +kernel) (by decide +kernel) (by decide +kernel) (show X.env.scope.names.lookup _ = _ by rw [hsc]; exact g2) (g.blt _ k4) k1 k2 k3 hx ns) rfl (fun _ => nofun)
  | isI2 t u =>
    obtain ⟨_, _, _, _, _, _, _, _, _, _, rfl, h, g1, g2, g3, ty, ty2, ns⟩ := trIsI2_ok (show trIsI2 sc t u e = some [a] from h)
    cases h
    obtain ⟨rfl, g1⟩ := isB_ok g1
    obtain ⟨rfl, g2⟩ := isB_ok g2
    obtain ⟨rfl, g3⟩ := isB_ok g3
    obtain ⟨k1, k2, k3, k4⟩ := boot_ty ty
    obtain ⟨m1, m2, m3, m4⟩ := boot_ty ty2
    exact .pl (callIs2 (show X.env.scope.names.lookup _ = _ by rw [hsc]; exact g1) g.bl (by decide +kernel) (by decide +kernel) (by decide +kernel) (show X.env.scope.names.lookup _ = _ by rw [hsc]; exact g2) (g.blt _ k4) k1 k2 k3
        (show X.env.scope.names.lookup _ = _ by rw [hsc]; exact g3) (g.blt _ m4) m1 m2 m3 hx ns) rfl (fun _ => nofun)
  | index => cases h
  | lrg1 =>
    obtain ⟨_, _, _, _, _, _, _, rfl, h, g1, g2, ns⟩ := trLrg1_ok (show trLrg1 sc e = some [a] from h)
    cases h
    obtain ⟨rfl, g1⟩ := isB_ok g1
    obtain ⟨rfl, g2⟩ := isB_ok g2
    refine .pl ((pe_listRg g.calm (show X.env.scope.names.lookup _ = _ by rw [hsc]; exact g1) g.bl (prg_1 (show X.env.scope.names.lookup _ = _ by rw [hsc]; exact g2) g.bl hx (star_cons ns)) rfl).weak fun σ H Q q => ?_) rfl (fun _ => nofun)
    refine rdP_mono (red1 q) fun w H' q => ?_
    obtain ⟨Z, ds, v, l, zt, rs, e, q⟩ := q
    obtain ⟨a, rfl, ra⟩ := reps1 rs
    replace e : evLrg (.int 0) a = some v := e
    unfold evLrg at e
    split at e
    · rename_i i0 j e0
      cases e0
      obtain ⟨its, e9, rfl⟩ := Option.map_eq_some_iff.mp e
      exact ⟨j, ra, lrg_out l zt e9 q⟩
    · cases e
  | rev =>
    obtain ⟨_, _, _, _, _, _, rfl, h⟩ := trRev_ok (show trRev e = some [a] from h)
    cases h
    refine .pl ((pe_revA hx).weak fun σ H Q q => ?_) rfl (fun _ => nofun)
    refine rdP_mono (red1 q) fun w H' q => ?_
    obtain ⟨Z, ds, v, l, zt, rs, e, q⟩ := q
    obtain ⟨a, rfl, ra⟩ := reps1 rs
    replace e : evRev a = some v := e
    unfold evRev at e
    split at e
    · split at e
      · rename_i hc
        cases e
        simp only [RepT] at ra
        obtain ⟨p, ws, rfl, q1, s1⟩ := ra
        refine ⟨p, ws, rfl, .inl ⟨q1.seq, fun p hp => q.newL l zt hp s1.rev ?_⟩⟩
        rw [List.length_reverse, s1.length]
        exact Nat.le_trans hc (Nat.le_of_eq line_cap)
      · cases e
    · split at e
      · rename_i hc
        cases e
        simp only [RepT, Rep] at ra
        obtain ⟨p, ws, rfl, q1, s1⟩ := ra
        refine ⟨p, ws, rfl, .inr ⟨q1, fun p hp => q.newT l hp s1.rev ?_⟩⟩
        rw [List.length_reverse, s1.length]
        exact Nat.le_trans hc (Nat.le_of_eq line_cap)
      · cases e
    · cases e
  | lrg2 => obtain ⟨_, _, _, _, _, _, _, _, _, e1, _⟩ := trLrg2_ok (show trLrg2 sc e = some [a] from h); cases e1
  | tzip => obtain ⟨_, _, _, _, _, _, _, _, _, e1, _⟩ := trTz_ok (show trTz sc e = some [a] from h); cases e1
  | _ =>
    first
      | (obtain ⟨_, _, _, _, _, _, e1, _⟩ := trB2_ok h; cases e1)
      | (obtain ⟨_, _, _, _, e1, _⟩ := trCmp_ok h; cases e1)
      | (obtain ⟨_, _, _, _, e1⟩ := trBin_ok h; cases e1)
      | (obtain ⟨_, _, _, _, e1, _⟩ := trIx_ok h; cases e1)
theorem op2_all (g : Gd X T d ec) (hsc : X.env.scope = sc) {o : Op} (h : trOp sc o e = some [a, b]) (hx : PE X a (rdP X.K ec Wx W x)) (hy : PE X b (rdP X.K ec Wx W y)) : All3 X ec Wx W e (.op o (.cons x (.cons y .nil))) := by
  have hu := g.units
  cases o with
  | min2 => exact b2 (n := "min") hsc g.bl (by decide +kernel) (by decide +kernel) (by decide +kernel) (cr_min2 g.calm) h hx hy
  | max2 => exact b2 (n := "max") hsc g.bl (by decide +kernel) (by decide +kernel) (by decide +kernel) (cr_max2 g.calm) h hx hy
  | add => obtain ⟨_, _, _, rfl, h⟩ := trBin_ok h; cases h; exact .pl (opBin hx hy or_add) rfl (fun _ => nofun)
  | sub => obtain ⟨_, _, _, rfl, h⟩ := trBin_ok h; cases h; exact .pl (opBin hx hy or_sub) rfl (fun _ => nofun)
  | mul => obtain ⟨_, _, _, rfl, h⟩ := trBin_ok h; cases h; exact .pl (opBin hx hy or_mul) rfl (fun _ => nofun)
  | fdiv => obtain ⟨_, _, _, rfl, h⟩ := trBin_ok h; cases h; exact .pl (opBin hx hy or_fdiv) rfl (fun _ => nofun)
  | mod => obtain ⟨_, _, _, rfl, h⟩ := trBin_ok h; cases h; exact .pl (opBin hx hy or_mod) rfl (fun _ => nofun)
  | shr => obtain ⟨_, _, _, rfl, h⟩ := trBin_ok h; cases h; exact .pl (opBin hx hy or_shr) rfl (fun _ => nofun)
  | shl => obtain ⟨_, _, _, rfl, h⟩ := trBin_ok h; cases h; exact .pl (opBin hx hy or_shl) rfl (fun _ => nofun)
  | band => obtain ⟨_, _, _, rfl, h⟩ := trBin_ok h; cases h; exact .pl (opBin hx hy or_band) rfl (fun _ => nofun)
  | eq => obtain ⟨_, _, _, rfl, h, z⟩ := trCmp_ok h; cases h; exact .of (opCmpE hx hy (or_eq (by omega)) z) (opCmpT hx hy (or_eq (by omega)) z) (fun _ => nofun)
  | ne => obtain ⟨_, _, _, rfl, h, z⟩ := trCmp_ok h; cases h; exact .of (opCmpE hx hy (or_ne (by omega)) z) (opCmpT hx hy (or_ne (by omega)) z) (fun _ => nofun)
  | lt => obtain ⟨_, _, _, rfl, h, z⟩ := trCmp_ok h; cases h; exact .of (opCmpE hx hy or_lt z) (opCmpT hx hy or_lt z) (fun _ => nofun)
  | le => obtain ⟨_, _, _, rfl, h, z⟩ := trCmp_ok h; cases h; exact .of (opCmpE hx hy or_le z) (opCmpT hx hy or_le z) (fun _ => nofun)
  | gt => obtain ⟨_, _, _, rfl, h, z⟩ := trCmp_ok h; cases h; exact .of (opCmpE hx hy or_gt z) (opCmpT hx hy or_gt z) (fun _ => nofun)
  | ge => obtain ⟨_, _, _, rfl, h, z⟩ := trCmp_ok h; cases h; exact .of (opCmpE hx hy or_ge z) (opCmpT hx hy or_ge z) (fun _ => nofun)
  | isin => obtain ⟨_, _, _, rfl, h, z⟩ := trCmp_ok h; cases h; exact .of (opCmpE hx hy (or_in (by omega)) z) (opCmpT hx hy (or_in (by omega)) z) (fun _ => nofun)
  | notin => obtain ⟨_, _, _, rfl, h, z⟩ := trCmp_ok h; cases h; exact .of (opCmpE hx hy (or_notin (by omega)) z) (opCmpT hx hy (or_notin (by omega)) z) (fun _ => nofun)
  | idx =>
    obtain ⟨_, _, _, rfl, h, z⟩ := trIx_ok (show trIx e = some [a, b] from h)
    cases h
    exact .pl ((pe_ix or_idx hx hy (plainIx z)).weak fun _ _ _ q => red2 q) rfl (fun _ => nofun)
  | neg => obtain ⟨_, _, _, e1⟩ := trNeg_ok (show trNeg e = some [a, b] from h); cases e1
  | rev => obtain ⟨_, _, _, _, _, _, _, e1⟩ := trRev_ok (show trRev e = some [a, b] from h); cases e1
  | lrg1 => obtain ⟨_, _, _, _, _, _, _, _, e1, _⟩ := trLrg1_ok (show trLrg1 sc e = some [a, b] from h); cases e1
  | lrg2 =>
    obtain ⟨_, _, _, _, _, _, _, _, rfl, h, g1, g2, ns, ns2⟩ := trLrg2_ok (show trLrg2 sc e = some [a, b] from h)
    cases h
    obtain ⟨rfl, g1⟩ := isB_ok g1
    obtain ⟨rfl, g2⟩ := isB_ok g2
    refine .pl ((pe_listRg g.calm (show X.env.scope.names.lookup _ = _ by rw [hsc]; exact g1) g.bl (prg_2 (show X.env.scope.names.lookup _ = _ by rw [hsc]; exact g2) g.bl hx hy (star_cons ns) (star_cons ns2) (star_any (by simp [ns2]))) rfl).weak fun σ H Q q => ?_) rfl (fun _ => nofun)
    refine rdP_mono (red2 q) fun w H' q => rdP_mono q fun w2 H2 q => ?_
    obtain ⟨Z, ds, v, l, zt, rs, e, q⟩ := q
    obtain ⟨a, b, rfl, ra, rb⟩ := reps2 rs
    replace e : evLrg a b = some v := e
    unfold evLrg at e
    split at e
    · obtain ⟨its, e9, rfl⟩ := Option.map_eq_some_iff.mp e
      exact ⟨_, _, ra, rb, lrg_out l zt e9 q⟩
    · cases e
  | tzip =>
    obtain ⟨_, _, _, _, _, _, _, _, rfl, h, g1, g2, ns, ns2⟩ := trTz_ok (show trTz sc e = some [a, b] from h)
    cases h
    obtain ⟨rfl, g1⟩ := isB_ok g1
    obtain ⟨rfl, g2⟩ := isB_ok g2
    refine .pl ((pe_tupZip g.calm (show X.env.scope.names.lookup _ = _ by rw [hsc]; exact g1) g.bl (show X.env.scope.names.lookup _ = _ by rw [hsc]; exact g2) g.bl (pa_cons hx (pa_cons hy pa_nil (star_cons ns2)) (star_cons ns)) (star_cons ns) (star_any (by simp [ns2]))).weak fun σ H Q q => ?_) rfl (fun _ => nofun)
    refine rdP_mono (red2 q) fun w H' q => rdP_mono q fun w2 H2 q => ?_
    exact tz_out q
  | isI t => obtain ⟨_, _, _, _, _, _, _, e1, _⟩ := trIsI_ok (show trIsI sc t e = some [a, b] from h); cases e1
  | isI2 t u => obtain ⟨_, _, _, _, _, _, _, _, _, _, _, e1, _⟩ := trIsI2_ok (show trIsI2 sc t u e = some [a, b] from h); cases e1
  | index => cases h
  | _ =>
    first
      | (obtain ⟨_, _, _, _, _, e1, _⟩ := trB1_ok h; cases e1)
      | (obtain ⟨_, _, _, _, _, e1⟩ := trIs_ok h; cases e1)
end
end Ev


set_option Elab.async false
set_option linter.all false
set_option maxRecDepth 100000
set_option maxHeartbeats 4000000
/-! Ev, part 13: every expression, by its shape. -/
namespace Ev
open PySem L2 PyProof.Rows
open PySem.W (Frag)

theorem fsi_pure {e : Expr} {env : Env} (h : (match e with | .Set .. => false | _ => true) = true) : ∀ x, foldedSetIterable e env x = pure x := by
  intro x
  cases e <;> first | rfl | cases h
theorem noStar_all {P : TrP} {sc : Scope} : ∀ {es : Exs} {l : List Expr}, trEs P sc es l = true → l.all noStar = true
  | .nil, [], _ => rfl
  | .nil, _ :: _, h => by simp [trEs] at h
  | .cons _ _, [], h => by simp [trEs] at h
  | .cons x xs, e :: es, h => by
    simp only [trEs, Bool.and_eq_true] at h
    rw [List.all_cons, Bool.and_eq_true]
    exact ⟨h.1.2, noStar_all h.2⟩
theorem Gd.blk {X : Cx} {T : Tab} {d : Nat} {ec : Nat → Value} (g : Gd X T d ec) (s : Shared) (H : Hp) (scope : Scope) (cenv : Env) (fp : List Addr) : Gd (X.blk s H scope cenv fp) T d ec := ⟨g.calm, g.nd, g.gds, g.room, g.blt, g.glob, g.fns, g.xmk, g.exm⟩
theorem takes_blk {X : Cx} {s : Shared} {H : Hp} {scope : Scope} {cenv : Env} {fp : List Addr} : Takes (X.blk s H scope cenv fp) Wf := by
  rintro u s' ⟨a, B, sI, pins, σ, H, cls, d, e, I, nb, up, sky, na, os, ag, w⟩
  exact w.elim
theorem ownOf_snd (N : List Str) (vs : List Nat) : (ownOf N vs).map (·.2) = vs := by
  unfold ownOf
  rw [List.map_map]
  exact List.map_id vs
theorem nmOf_ok {l : List String} {i : Nat} {x : Str} (h : nmOf l i x = true) : ∃ n, l[i]? = some n ∧ x = Str.ofString n := by
  unfold nmOf at h
  split at h
  · rename_i n e
    exact ⟨n, e, of_decide_eq_true h⟩
  · cases h
theorem isLoc_ok {sc : Scope} {x : Str} (h : isLoc sc x = true) : Loc sc x := by
  simp only [isLoc, Bool.or_eq_true] at h
  rcases h with h | h
  · exact .inl (kindIs_some h)
  · exact .inr (kindIs_some h)
/-- a comprehension's target -/
theorem blk_loc {X : Cx} {bs : Scope} {s : Shared} {H : Hp} {C : Addr} {cl : List (Str × Addr)} {fp : List Addr} : ∀ x, isLoc bs x = true →
    Loc (X.blk s H bs (compEnvC bs cl C X.env) fp).env.scope x ∧ ((X.blk s H bs (compEnvC bs cl C X.env) fp).fn x = true ∨ (X.blk s H bs (compEnvC bs cl C X.env) fp).env.scope.names.lookup x = some .local) := fun x h => by
  rcases isLoc_ok h with h | h
  · have := lookup_relS_keep (sc := X.env.scope) (names := bs.names) (x := x) (k := .local) (by decide) h
    exact ⟨.inl this, .inr this⟩
  · have := lookup_relS_keep (sc := X.env.scope) (names := bs.names) (x := x) (k := .cell) (by decide) h
    exact ⟨.inr this, .inl (by show (bs.names.lookup x == some .cell) = true; rw [h]; rfl)⟩
theorem trT_tup {N : List Str} {sc : Scope} {tg : Tg} {e : Expr} (h : trT N sc tg e = true) (b : isTupT tg = true) : ∃ es k p, e = .Tuple es k p := by
  cases tg with
  | name i => cases b
  | sub _ _ => cases b
  | tup ts =>
    cases e <;> first | exact ⟨_, _, _, rfl⟩ | simp [trT] at h
theorem trB1_len {sc : Scope} {n : String} {e : Expr} {l : List Expr} (h : trB1 sc n e = some l) : ∃ a, l = [a] := by
  obtain ⟨_, _, a, _, _, h, _⟩ := trB1_ok h
  exact ⟨a, h⟩
theorem trCmp_len {p : CmpOp} {e : Expr} {l : List Expr} (h : trCmp p e = some l) : ∃ a b, l = [a, b] := by
  obtain ⟨a, b, _, _, h, _⟩ := trCmp_ok h
  exact ⟨a, b, h⟩
theorem trBin_len {p : Operator} {e : Expr} {l : List Expr} (h : trBin p e = some l) : ∃ a b, l = [a, b] := by
  obtain ⟨a, b, _, _, h⟩ := trBin_ok h
  exact ⟨a, b, h⟩
theorem trOp_len {sc : Scope} {o : Op} {e : Expr} {l : List Expr} (h : trOp sc o e = some l) : (∃ a, l = [a]) ∨ ∃ a b, l = [a, b] := by
  cases o with
  | neg => obtain ⟨a, _, _, h⟩ := trNeg_ok (show trNeg e = some l from h); exact .inl ⟨a, h⟩
  | idx => obtain ⟨a, b, _, _, h, _⟩ := trIx_ok (show trIx e = some l from h); exact .inr ⟨a, b, h⟩
  | isI t => obtain ⟨_, _, a, _, _, _, _, h, _⟩ := trIsI_ok (show trIsI sc t e = some l from h); exact .inl ⟨a, h⟩
  | isI2 t u => obtain ⟨_, _, a, _, _, _, _, _, _, _, _, h, _⟩ := trIsI2_ok (show trIsI2 sc t u e = some l from h); exact .inl ⟨a, h⟩
  | index => cases h
  | lrg1 => obtain ⟨_, _, _, _, a, _, _, _, h, _⟩ := trLrg1_ok (show trLrg1 sc e = some l from h); exact .inl ⟨a, h⟩
  | lrg2 => obtain ⟨_, _, _, _, a, b, _, _, _, h, _⟩ := trLrg2_ok (show trLrg2 sc e = some l from h); exact .inr ⟨a, b, h⟩
  | tzip => obtain ⟨_, _, _, _, a, b, _, _, _, h, _⟩ := trTz_ok (show trTz sc e = some l from h); exact .inr ⟨a, b, h⟩
  | rev => obtain ⟨a, _, _, _, _, _, _, h⟩ := trRev_ok (show trRev e = some l from h); exact .inl ⟨a, h⟩
  | isN => obtain ⟨a, _, _, _, _, h⟩ := trIs_ok (show trIs .Is e = some l from h); exact .inl ⟨a, h⟩
  | notN => obtain ⟨a, _, _, _, _, h⟩ := trIs_ok (show trIs .IsNot e = some l from h); exact .inl ⟨a, h⟩
  | min2 => obtain ⟨_, _, a, b, _, _, h, _⟩ := trB2_ok (show trB2 sc "min" e = some l from h); exact .inr ⟨a, b, h⟩
  | max2 => obtain ⟨_, _, a, b, _, _, h, _⟩ := trB2_ok (show trB2 sc "max" e = some l from h); exact .inr ⟨a, b, h⟩
  | _ =>
    first
      | exact .inl (trB1_len h)
      | exact .inr (trCmp_len h)
      | exact .inr (trBin_len h)
theorem fsi_it {P : TrP} {sc : Scope} {it : Itx} {b : Bool} {e : Expr} (h : trI P sc it b e = true) : ∀ env x, foldedSetIterable e env x = pure x := by
  intro env x
  cases it with
  | seq a =>
    simp only [trI, Bool.and_eq_true] at h
    exact fsi_pure h.2 x
  | _ =>
    unfold trI at h
    split at h <;> first | contradiction | rfl
section
variable {ec : Nat → Value} {T : Tab} {d : Nat} {P : TrP} {o0 f0 : Bool}
theorem var_all {X : Cx} {Wx : WX} {W : Wd} {sc : Scope} {i : Nat} {x : Str} {p : Pos} (hN : X.N[i]? = some x) (hsc : X.env.scope = sc) (hv : vis sc x = true) (hk : okName x = true) : All3 X ec Wx W (.Name x p) (.var i) := by
  obtain ⟨h1, h2, h3⟩ := okName_ok hk
  have hv := vis_ok hv
  rw [← hsc] at hv
  have v : PE X (.Name x p) (tVar i) := pe_var hN hv h1 h2
  exact ⟨rdE_var v, testPlain (rdE_var v) rfl, rdP_var v⟩
theorem glob_all {X : Cx} {Wx : WX} {sc : Scope} {g : String} {x : Str} {p : Pos} (G : Gd X T d ec) (hsc : X.env.scope = sc) (hx : x = Str.ofString g) (hg : gl sc x = true) (hk : okName x = true) : All3 X ec Wx (T.wd (T.call d) o0 f0) (.Name x p) (.glob g) := by
  subst hx
  obtain ⟨h1, h2, h3⟩ := okName_ok hk
  have hgl : Gl X (Str.ofString g) := by
    show X.env.scope.names.lookup _ = _
    rw [hsc]
    exact kindIs_some hg
  cases hv : T.glob g with
  | none =>
    have hE : PE X (.Name (Str.ofString g) p) (rdE X.K ec Wx (T.wd (T.call d) o0 f0) (.glob g)) := ⟨fun pins s σ H Q I q => by
      obtain ⟨c, f, r, q⟩ := q
      rw [evE] at q
      obtain ⟨v, e, _⟩ := q.ofO
      have e : T.glob g = some v := e
      rw [hv] at e
      cases e⟩
    exact .pl hE rfl (fun _ => nofun)
  | some v =>
    obtain ⟨u, w, hm, rv, rp⟩ := G.glob g v hv
    have hE : PE X (.Name (Str.ofString g) p) (rdE X.K ec Wx (T.wd (T.call d) o0 f0) (.glob g)) := rdE_con (pe_glob hgl hm rv h1) (fun f => by
      rw [evE]
      show Res.ofO (T.glob g) f = _
      rw [hv]
      rfl) rp rfl
    exact .pl hE rfl (fun _ => nofun)
theorem con_all {X : Cx} {Wx : WX} {W : Wd} {x : Ex} {v : V} {u : Dt} {c j : _} {p : Pos} (h : PE X (.Constant c j p) (tC v)) (he : ∀ f, evE W x f = .ok (u, f)) (hr : ∀ Z H, Rep X.K Z H u v) (hf : isFr W x = false) (n : ∀ i, x ≠ .var i) : All3 X ec Wx W (.Constant c j p) x :=
  .pl (rdE_con h he hr hf) rfl n
/-- what is shown of the first of some expressions -/
def HdOk (X : Cx) (ec : Nat → Value) (Wx : WX) (W : Wd) : Exs → List Expr → Prop
  | .cons x _, e :: _ => All3 X ec Wx W e x
  | _, _ => True
theorem pts_cs {X : Cx} {Wx : WX} {W : Wd} : ∀ {cs : Exs} {ifs : List Expr}, trEs P X.env.scope cs ifs = true → ifs.length ≤ 1 → HdOk X ec Wx W cs ifs → PTs X ifs (rdCs X.K ec Wx W cs)
  | .nil, [], _, _, _ => pts_nil
  | .cons c _, [e], _, _, h => pts_one h.pt
  | .nil, _ :: _, h, _, _ => by simp [trEs] at h
  | .cons _ _, [], h, _, _ => by simp [trEs] at h
  | .cons _ _, _ :: _ :: _, _, h, _ => by simp at h
theorem part_all {X : Cx} {Wx : WX} {W : Wd} : ∀ {es : Exs} {l : Option Expr}, trEs P X.env.scope es l.toList = true → HdOk X ec Wx W es l.toList → PO X l (rdO X.K ec Wx W es)
  | .nil, none, _, _ => part_none
  | .cons c _, some e, _, h => part_some h.pe
  | .nil, some _, h, _ => by simp [trEs] at h
  | .cons _ _, none, h, _ => by simp [trEs] at h
variable (hP : P.fns = T.fns.map (·.name))
include hP
theorem call_all {X : Cx} {Wx : WX} {sc : Scope} {gi : Nat} {es : Exs} {x : Str} {p pos : Pos} {e : Expr} {l : List Expr} (G : Gd X T d ec) (hsc : X.env.scope = sc) (tk : Takes X Wx) (hn : nmOf P.fns gi x = true) (hg : gl sc x = true) (hk : okName x = true)
    (h : PA X (e :: l) (rdA X.K ec Wx (T.wd (T.call d) o0 f0) es)) (hs : (e :: l).all noStar = true) : All3 X ec Wx (T.wd (T.call d) o0 f0) (.Call (.Name x p) (e :: l) [] pos) (.call gi es) := by
  obtain ⟨n, e1, rfl⟩ := nmOf_ok hn
  rw [hP, List.getElem?_map, Option.map_eq_some_iff] at e1
  obtain ⟨fn, e1, rfl⟩ := e1
  obtain ⟨h1, h2, h3⟩ := okName_ok hk
  exact .pl (call_E G e1 rfl (show X.env.scope.names.lookup _ = _ by rw [hsc]; exact kindIs_some hg) h1 tk h hs) rfl (fun _ => nofun)
mutual
theorem exA : ∀ (x : Ex) (e : Expr) (X : Cx) (sc : Scope) (Wx : WX), trE P sc x e = true → Gd X T d ec → X.N = P.N → X.env.scope = sc → Takes X Wx → All3 X ec Wx (T.wd (T.call d) o0 f0) e x
  | .var i, e, X, sc, Wx, h, G, hN, hsc, tk => by
    unfold trE at h
    split at h <;> first | contradiction | (rename_i e1; cases e1)
    simp only [Bool.and_eq_true, decide_eq_true_eq] at h
    exact var_all (by rw [hN]; exact h.1.1) hsc h.1.2 h.2
  | .non, e, X, sc, Wx, h, G, hN, hsc, tk => by
    unfold trE at h
    split at h <;> first | contradiction | skip
    exact con_all pe_non (fun f => by rw [evE]) (fun _ _ => by simp only [Rep]) rfl (fun _ => nofun)
  | .bl b, e, X, sc, Wx, h, G, hN, hsc, tk => by
    unfold trE at h
    split at h <;> first | contradiction | (rename_i e1; cases e1)
    have h := eq_of_beq h
    subst h
    exact con_all pe_bl (fun f => by rw [evE]) (fun _ _ => by simp only [Rep]) rfl (fun _ => nofun)
  | .int b, e, X, sc, Wx, h, G, hN, hsc, tk => by
    unfold trE at h
    split at h <;> first | contradiction | (rename_i e1; cases e1)
    have h := of_decide_eq_true h
    subst h
    exact con_all pe_int (fun f => by rw [evE]) (fun _ _ => by simp only [Rep]) rfl (fun _ => nofun)
  | .str b, e, X, sc, Wx, h, G, hN, hsc, tk => by
    unfold trE at h
    split at h <;> first | contradiction | (rename_i e1; cases e1)
    have h := of_decide_eq_true h
    subst h
    exact con_all pe_str (fun f => by rw [evE]) (fun _ _ => by simp only [Rep]) rfl (fun _ => nofun)
  | .glob g, e, X, sc, Wx, h, G, hN, hsc, tk => by
    unfold trE at h
    split at h <;> first | contradiction | (rename_i e1; cases e1)
    simp only [Bool.and_eq_true, decide_eq_true_eq] at h
    exact glob_all G hsc h.1.1 h.1.2 h.2
  | .op o es, e, X, sc, Wx, h, G, hN, hsc, tk => by
    have h2 : ∃ l, trOp sc o e = some l ∧ trEs P sc es l = true := by
      simp only [trE] at h
      cases h1 : trOp sc o e with
      | none => rw [h1] at h; cases h
      | some l => rw [h1] at h; exact ⟨l, rfl, h⟩
    obtain ⟨l, h1, h2⟩ := h2
    exact opsA es l e o X sc Wx h1 h2 G hN hsc tk
  | .chain o o2 a b c, e, X, sc, Wx, h, G, hN, hsc, tk => by
    unfold trE at h
    split at h <;> first | contradiction | (rename_i e1; cases e1)
    simp only [Bool.and_eq_true] at h
    have A := exA a _ X sc Wx h.1.1.2 G hN hsc tk
    have B := exA b _ X sc Wx h.1.2 G hN hsc tk
    have C := exA c _ X sc Wx h.2 G hN hsc tk
    exact .of (chain_E h.1.1.1.1 h.1.1.1.2 A.pe B.pe C.pe) (chain_T h.1.1.1.1 h.1.1.1.2 A.pe B.pe C.pe) (fun _ => nofun)
  | .and a b, e, X, sc, Wx, h, G, hN, hsc, tk => by
    unfold trE at h
    split at h <;> first | contradiction | (rename_i e1; cases e1)
    simp only [Bool.and_eq_true] at h
    have A := exA a _ X sc Wx h.1 G hN hsc tk
    have B := exA b _ X sc Wx h.2 G hN hsc tk
    exact .of (and_E A.pe B.pe) (and_T A.pt B.pt) (fun _ => nofun)
  | .or a b, e, X, sc, Wx, h, G, hN, hsc, tk => by
    unfold trE at h
    split at h <;> first | contradiction | (rename_i e1; cases e1)
    simp only [Bool.and_eq_true] at h
    have A := exA a _ X sc Wx h.1 G hN hsc tk
    have B := exA b _ X sc Wx h.2 G hN hsc tk
    exact .of (or_E A.pe B.pe) (or_T A.pt B.pt) (fun _ => nofun)
  | .one a, e, X, sc, Wx, h, G, hN, hsc, tk => by
    unfold trE at h
    split at h <;> first | contradiction | (rename_i e1; cases e1)
    have A := exA a _ X sc Wx h G hN hsc tk
    exact .of (one_E A.pe) (one_T A.pt) (fun _ => nofun)
  | .not a, e, X, sc, Wx, h, G, hN, hsc, tk => by
    unfold trE at h
    split at h <;> first | contradiction | (rename_i e1; cases e1)
    have A := exA a _ X sc Wx h G hN hsc tk
    exact .of (not_E A.pe) (not_T A.pt) (fun _ => nofun)
  | .ife c a b, e, X, sc, Wx, h, G, hN, hsc, tk => by
    unfold trE at h
    split at h <;> first | contradiction | (rename_i e1; cases e1)
    simp only [Bool.and_eq_true] at h
    have C := exA c _ X sc Wx h.1.1 G hN hsc tk
    have A := exA a _ X sc Wx h.1.2 G hN hsc tk
    have B := exA b _ X sc Wx h.2 G hN hsc tk
    exact .of (ife_E C.pt A.pe B.pe) (ife_T C.pt A.pt B.pt) (fun _ => nofun)
  | .tup es, e, X, sc, Wx, h, G, hN, hsc, tk => by
    unfold trE at h
    split at h <;> first | contradiction | (rename_i e1; cases e1)
    simp only [Bool.and_eq_true, decide_eq_true_eq] at h
    exact .pl (tup_E (exsA es _ X sc Wx h.1 G hN hsc tk).1 (by rw [← trEs_len h.1]; exact h.2)) rfl (fun _ => nofun)
  | .lst es, e, X, sc, Wx, h, G, hN, hsc, tk => by
    unfold trE at h
    split at h <;> first | contradiction | (rename_i e1; cases e1)
    simp only [Bool.and_eq_true, decide_eq_true_eq] at h
    exact .pl (lst_E (exsA es _ X sc Wx h.1 G hN hsc tk).1 (by rw [← trEs_len h.1]; exact h.2)) rfl (fun _ => nofun)
  | .call g es, e, X, sc, Wx, h, G, hN, hsc, tk => by
    unfold trE at h
    split at h <;> first | contradiction | (rename_i e1; cases e1)
    simp only [Bool.and_eq_true] at h
    exact call_all hP G hsc tk h.1.1.1 h.1.1.2 h.1.2 (exsA es _ X sc Wx h.2 G hN hsc tk).1 (noStar_all h.2)
  | .slice a lo hi, e, X, sc, Wx, h, G, hN, hsc, tk => by
    unfold trE at h
    split at h <;> first | contradiction | (rename_i e1; cases e1)
    simp only [Bool.and_eq_true] at h
    obtain ⟨⟨⟨⟨h1, h2⟩, h3⟩, _⟩, _⟩ := h
    have A := exA a _ X sc Wx h1 G hN hsc tk
    have B := exsA lo _ X sc Wx h2 G hN hsc tk
    have C := exsA hi _ X sc Wx h3 G hN hsc tk
    subst hsc
    exact .pl (slice_E A.pp (part_all h2 B.2) (part_all h3 C.2)) rfl (fun _ => nofun)
  | .comp vs tg it cs elt, e, X, sc, Wx, h, G, hN, hsc, tk => by
    unfold trE at h
    split at h <;> first | contradiction | (rename_i e1; cases e1)
    simp only [Bool.and_eq_true, decide_eq_true_eq] at h
    rename_i bs pos
    obtain ⟨⟨⟨⟨⟨⟨h1, h2⟩, h3⟩, h4⟩, h5⟩, h6⟩, h7⟩ := h
    have I := itA it _ _ X sc Wx h1 G hN hsc tk
    subst hsc
    refine .pl ((pe_lc G.calm G.nd (I.1 _ (trT_tup h3)) (blkOk_by (by rw [hN]; exact h2)) (fun s H C cl fp => tgt (X := X.blk s H _ _ fp) G.nd G.calm blk_loc tg _ (.inl (tgIn_sub tg h4)) (by rw [hN]; exact h3)) (fun s H C cl fp => ?_) (fun s H C cl fp => ?_) (I.2 X.env)).weak fun σ H Q q => by rw [ownOf_snd]; exact comp_red h4 q) rfl (fun _ => nofun)
    · have C := exsA cs _ (X.blk s H bs (compEnvC bs cl C X.env) fp) _ Wf h6 (G.blk ..) hN rfl takes_blk
      exact pts_cs h6 h5 C.2
    · exact (exA elt _ (X.blk s H bs (compEnvC bs cl C X.env) fp) _ Wf h7 (G.blk ..) hN rfl takes_blk).pe
  | .comp2 vs tg it cs ws tg2 it2 cs2 elt, e, X, sc, Wx, h, G, hN, hsc, tk => by
    unfold trE at h
    split at h <;> first | contradiction | (rename_i e1; cases e1)
    simp only [Bool.and_eq_true, decide_eq_true_eq] at h
    rename_i bs pos
    obtain ⟨⟨⟨⟨⟨⟨⟨⟨⟨⟨⟨⟨h1, h2⟩, h3⟩, h4⟩, h5⟩, h6⟩, k1⟩, k3⟩, k4⟩, kw⟩, k5⟩, k6⟩, h7⟩ := h
    have I := itA it _ _ X sc Wx h1 G hN hsc tk
    have hws : ∀ w ∈ ws, w ∈ vs := fun w hw => by simpa using List.all_eq_true.mp kw w hw
    subst hsc
    refine .pl ((pe_lc2 (vs1 := ws) G.calm G.nd (I.1 _ (trT_tup h3)) (blkOk_by (by rw [hN]; exact h2)) (by rw [ownOf_snd]; exact hws) (fun s H C cl fp => tgt (X := X.blk s H _ _ fp) G.nd G.calm blk_loc tg _ (.inl (tgIn_sub tg h4)) (by rw [hN]; exact h3)) (fun s H C cl fp => ?_) (fun s H C cl fp => ?_)
      (fun s H C cl fp => tgt (X := X.blk s H _ _ fp) G.nd G.calm blk_loc tg2 _ (.inl (tgIn_sub tg2 k4)) (by rw [hN]; exact k3)) (fun s H C cl fp => ?_) (fun s H C cl fp => ?_) (I.2 X.env) (fun env x => ?_)).weak fun σ H Q q => by rw [ownOf_snd]; exact comp2_red h4 k4 hws q) rfl (fun _ => nofun)
    · have C := exsA cs _ (X.blk s H bs (compEnvC bs cl C X.env) fp) _ Wf h6 (G.blk ..) hN rfl takes_blk
      exact pts_cs h6 h5 C.2
    · exact (itA it2 _ _ (X.blk s H bs (compEnvC bs cl C X.env) fp) _ Wf k1 (G.blk ..) hN rfl takes_blk).1 _ (trT_tup k3)
    · have C := exsA cs2 _ (X.blk s H bs (compEnvC bs cl C X.env) fp) _ Wf k6 (G.blk ..) hN rfl takes_blk
      exact pts_cs k6 k5 C.2
    · exact (exA elt _ (X.blk s H bs (compEnvC bs cl C X.env) fp) _ Wf h7 (G.blk ..) hN rfl takes_blk).pe
    · exact fsi_it k1 env x
theorem opsA : ∀ (es : Exs) (l : List Expr) (e : Expr) (o : Op) (X : Cx) (sc : Scope) (Wx : WX), trOp sc o e = some l → trEs P sc es l = true → Gd X T d ec → X.N = P.N → X.env.scope = sc → Takes X Wx → All3 X ec Wx (T.wd (T.call d) o0 f0) e (.op o es)
  | .nil, l, e, o, X, sc, Wx, h, h2, G, hN, hsc, tk => by
    rcases trOp_len h with ⟨a, rfl⟩ | ⟨a, b, rfl⟩ <;> simp [trEs] at h2
  | .cons x .nil, l, e, o, X, sc, Wx, h, h2, G, hN, hsc, tk => by
    rcases trOp_len h with ⟨a, rfl⟩ | ⟨a, b, rfl⟩
    · simp only [trEs, Bool.and_eq_true] at h2
      exact op1_all G hsc h (exA x a X sc Wx h2.1.1 G hN hsc tk).pp
    · simp [trEs] at h2
  | .cons x (.cons y .nil), l, e, o, X, sc, Wx, h, h2, G, hN, hsc, tk => by
    rcases trOp_len h with ⟨a, rfl⟩ | ⟨a, b, rfl⟩
    · simp [trEs] at h2
    · simp only [trEs, Bool.and_eq_true] at h2
      exact op2_all G hsc h (exA x a X sc Wx h2.1.1 G hN hsc tk).pp (exA y b X sc Wx h2.2.1.1 G hN hsc tk).pp
  | .cons x (.cons y (.cons z r)), l, e, o, X, sc, Wx, h, h2, G, hN, hsc, tk => by
    rcases trOp_len h with ⟨a, rfl⟩ | ⟨a, b, rfl⟩ <;> simp [trEs] at h2
theorem exsA : ∀ (es : Exs) (l : List Expr) (X : Cx) (sc : Scope) (Wx : WX), trEs P sc es l = true → Gd X T d ec → X.N = P.N → X.env.scope = sc → Takes X Wx → PA X l (rdA X.K ec Wx (T.wd (T.call d) o0 f0) es) ∧ HdOk X ec Wx (T.wd (T.call d) o0 f0) es l
  | .nil, l, X, sc, Wx, h, G, hN, hsc, tk => by
    cases l with
    | nil => exact ⟨args_nil, trivial⟩
    | cons _ _ => simp [trEs] at h
  | .cons x xs, l, X, sc, Wx, h, G, hN, hsc, tk => by
    cases l with
    | nil => simp [trEs] at h
    | cons e r =>
      simp only [trEs, Bool.and_eq_true] at h
      have A := exA x e X sc Wx h.1.1 G hN hsc tk
      have B := exsA xs r X sc Wx h.2 G hN hsc tk
      exact ⟨args_cons A.pp B.1 h.1.2, A⟩
theorem itA : ∀ (it : Itx) (b : Bool) (e : Expr) (X : Cx) (sc : Scope) (Wx : WX), trI P sc it b e = true → Gd X T d ec → X.N = P.N → X.env.scope = sc → Takes X Wx →
    (∀ tg : Expr, (b = true → ∃ es k p, tg = .Tuple es k p) → PI X tg e (rdI X.K ec Wx (T.wd (T.call d) o0 f0) it)) ∧ ∀ env x, foldedSetIterable e env x = pure x
  | .seq a, b, e, X, sc, Wx, h, G, hN, hsc, tk => by
    simp only [trI, Bool.and_eq_true] at h
    have A := exA a _ X sc Wx h.1 G hN hsc tk
    exact ⟨fun tg _ => evI_seq A.pe, fun env => fsi_pure h.2⟩
  | .rng1 a, b, e, X, sc, Wx, h, G, hN, hsc, tk => by
    unfold trI at h
    split at h <;> first | contradiction | (rename_i e1; cases e1)
    simp only [Bool.and_eq_true] at h
    obtain ⟨hx, hg⟩ := isB_ok h.1.1
    have A := exA a _ X sc Wx h.2 G hN hsc tk
    exact ⟨fun tg _ => evI_rng1 hx (show X.env.scope.names.lookup _ = _ by rw [hsc]; exact hg) G.bl A.pe h.1.2, fun env x => rfl⟩
  | .rng2 a a2, b, e, X, sc, Wx, h, G, hN, hsc, tk => by
    unfold trI at h
    split at h <;> first | contradiction | (rename_i e1; cases e1)
    simp only [Bool.and_eq_true] at h
    obtain ⟨hx, hg⟩ := isB_ok h.1.1.1.1
    have A := exA a _ X sc Wx h.1.2 G hN hsc tk
    have B := exA a2 _ X sc Wx h.2 G hN hsc tk
    exact ⟨fun tg _ => evI_rng2 hx (show X.env.scope.names.lookup _ = _ by rw [hsc]; exact hg) G.bl A.pe B.pe h.1.1.1.2 h.1.1.2, fun env x => rfl⟩
  | .zip a a2, b, e, X, sc, Wx, h, G, hN, hsc, tk => by
    unfold trI at h
    split at h <;> first | contradiction | (rename_i e1; cases e1)
    simp only [Bool.and_eq_true] at h
    obtain ⟨hx, hg⟩ := isB_ok h.1.1.1.1
    have A := exA a _ X sc Wx h.1.2 G hN hsc tk
    have B := exA a2 _ X sc Wx h.2 G hN hsc tk
    refine ⟨fun tg ht => ?_, fun env x => rfl⟩
    obtain ⟨es, k, p, rfl⟩ := ht rfl
    exact evI_zip hx (show X.env.scope.names.lookup _ = _ by rw [hsc]; exact hg) G.bl A.pe B.pe h.1.1.1.2 h.1.1.2
  | .enum a, b, e, X, sc, Wx, h, G, hN, hsc, tk => by
    unfold trI at h
    split at h <;> first | contradiction | (rename_i e1; cases e1)
    simp only [Bool.and_eq_true] at h
    obtain ⟨hx, hg⟩ := isB_ok h.1.1
    have A := exA a _ X sc Wx h.2 G hN hsc tk
    refine ⟨fun tg ht => ?_, fun env x => rfl⟩
    obtain ⟨es, k, p, rfl⟩ := ht rfl
    exact evI_enum hx (show X.env.scope.names.lookup _ = _ by rw [hsc]; exact hg) G.bl A.pe h.1.2
end
end
end Ev


set_option Elab.async false
set_option linter.all false
set_option maxRecDepth 100000
set_option maxHeartbeats 4000000
/-! Ev, part 14: statements: what is wished behind them. -/
namespace Ev
open PySem L2 PyProof.Rows
open PySem.W (Frag)

/-- from one frame's addresses and heap to a later one's -/
structure StepR (W : Wd) (c : Cf) (H : Hp) (c' : Cf) (H' : Hp) : Prop where
  z : c'.Z = c.Z
  k : Kp c.oa H H'
  n : ∀ a, c'.oa a → c.oa a ∨ H a = none
  o : W.own0 = true → c'.O 0 = c.O 0
theorem StepR.refl (W : Wd) (c : Cf) (H : Hp) : StepR W c H c H := ⟨rfl, Kp.refl _ _, fun _ z => .inl z, fun _ => rfl⟩
theorem StepR.of {W : Wd} {c : Cf} {H H' : Hp} (k : Kp c.oa H H') : StepR W c H c H' := ⟨rfl, k, fun _ z => .inl z, fun _ => rfl⟩
theorem StepR.trans {W : Wd} {c c1 c2 : Cf} {H H1 H2 : Hp} (s : StepR W c H c1 H1) (t : StepR W c1 H1 c2 H2) : StepR W c H c2 H2 :=
  ⟨t.z.trans s.z, s.k.trans t.k s.n, fun a h => (t.n a h).elim (s.n a) fun e => .inr (s.k.free e), fun w => (t.o w).trans (s.o w)⟩
theorem StepR.zo {W : Wd} {c c1 : Cf} {H H1 : Hp} (s : StepR W c H c1 H1) (a : Addr) (h : c1.zo a) : c.zo a ∨ H a = none := by
  rcases h with h | h
  · rw [s.z] at h; exact .inl (.inl h)
  · exact (s.n a h).imp .inr id
section
variable (K : Frag) (ec : Nat → Value) (Wx : WX) (W : Wd)
/-- a list that is handed back is new, or was the frame's own -/
def NewT (c : Cf) (H : Hp) (c' : Cf) (H' : Hp) (σ : L2.St) (f : Frm) (v : Dt) (w : V) : Prop :=
  ∀ us, v = .list us → ∃ p ws, w = .ref p ∧ (H p = none ∨ ∃ i, c.O i = some p ∧ (W.own0 = true → i ≠ 0)) ∧ H' p = some (.lst ws) ∧ Reps K (fun a => c'.zo a ∨ a = p) H' us ws ∧ R K (c'.plus p) H' σ f
def SatF (c : Cf) (H : Hp) (D : Ends) : Flw → Prop
  | .next f => ∀ σ' H' c', R K c' H' σ' f → StepR W c H c' H' → D.nx σ' H'
  | .brk f => ∀ σ' H' c', R K c' H' σ' f → StepR W c H c' H' → D.bk σ' H'
  | .cont f => ∀ σ' H' c', R K c' H' σ' f → StepR W c H c' H' → D.ct σ' H'
  | .ret v f => ∀ w σ' H' c', R K c' H' σ' f → StepR W c H c' H' → Rep K c'.zo H' v w → (W.fresh0 = true → NewT K W c H c' H' σ' f v w) → D.rt w H'
  | .exc k f => ∀ σ' H' c', R K c' H' σ' f → StepR W c H c' H' → Wx (ec k) none σ' H'
  | .stuck => False
def rdS (s : Sx) : TS := fun D σ H => ∃ c f, R K c H σ f ∧ SatF K ec Wx W c H D (evS W s f)
def rdSs (s : Sxs) : TS := fun D σ H => ∃ c f, R K c H σ f ∧ SatF K ec Wx W c H D (evSs W s f)
end
section
variable {K : Frag} {ec : Nat → Value} {Wx : WX} {W : Wd} {c c1 : Cf} {σ : L2.St} {H H1 : Hp} {D : Ends}
theorem SatF.move {r : Flw} (h : SatF K ec Wx W c H D r) (s : StepR W c H c1 H1) (inj : ∀ i j a, c1.O i = some a → c1.O j = some a → i = j) : SatF K ec Wx W c1 H1 D r := by
  cases r with
  | next f => exact fun σ' H' c' r t => h σ' H' c' r (s.trans t)
  | brk f => exact fun σ' H' c' r t => h σ' H' c' r (s.trans t)
  | cont f => exact fun σ' H' c' r t => h σ' H' c' r (s.trans t)
  | exc k f => exact fun σ' H' c' r t => h σ' H' c' r (s.trans t)
  | stuck => exact h
  | ret v f =>
    refine fun w σ' H' c' r t rp nw => h w σ' H' c' r (s.trans t) rp fun w0 us e => ?_
    obtain ⟨p, ws, e1, e2, e3⟩ := nw w0 us e
    refine ⟨p, ws, e1, ?_, e3⟩
    rcases e2 with e2 | ⟨i, e2, e4⟩
    · exact .inl (s.k.free e2)
    · rcases s.n p ⟨i, e2⟩ with ⟨j, q⟩ | q
      · refine .inr ⟨j, q, fun w0 z => ?_⟩
        subst z
        exact e4 w0 (inj i 0 p e2 (by rw [s.o w0]; exact q))
      · exact .inl q
theorem SatF.flw {r : Res (Dt × Frm)} {k : Dt → Frm → Flw} (h : SatF K ec Wx W c H D (toFlw r k)) : Sat K ec Wx c σ H r fun v f => SatF K ec Wx W c H D (k v f) := by
  cases r with
  | ok p => exact h
  | exc e f => exact fun H' r' k' => h σ H' c r' (.of k')
  | stuck => exact h
/-- .. where the exception is told by hand -/
theorem SatF.res {α : Type} {r : Res (α × Frm)} {g : α → Frm → Flw} {x : Flw} (hx : x = match r with | .ok (a, f) => g a f | .exc k f => .exc k f | .stuck => .stuck) (h : SatF K ec Wx W c H D x) : Sat K ec Wx c σ H r fun v f => SatF K ec Wx W c H D (g v f) := by
  subst hx
  cases r with
  | ok p => exact h
  | exc e f => exact fun H' r' k' => h σ H' c r' (.of k')
  | stuck => exact h
end

/-! ### own lists made, changed, given up -/
section
variable {K : Frag} {c : Cf} {H H' : Hp} {σ : L2.St} {f : Frm} {i : Nat} {p : Addr} {xs : List Dt} {ws : List V}
theorem put_zo {a : Addr} (h : (c.put i (some p)).zo a) : (c.plus p).zo a := by
  rcases h with h | ⟨j, h⟩
  · exact .inl (.inl h)
  · have h : (if j = i then some p else c.O j) = some a := h
    split at h
    · cases h; exact .inl (.inr rfl)
    · exact .inr ⟨j, h⟩
theorem R.setO (r : R K (c.plus p) H σ f) (hi : i < f.length) (hp : H p = some (.lst ws)) (hz : ¬ c.Z p) (rs : Reps K (fun a => c.zo a ∨ a = p) H xs ws) : R K (c.put i (some p)) H (σ.set i (some (.ref p))) (f.set i (.own xs)) := by
  have hz2 : ∀ a, (c.put i (some p)).zo a → (c.plus p).zo a ∨ H a = none := fun a z => .inl (put_zo z)
  have rs2 : Reps K (c.put i (some p)).zo H xs ws := Reps.keep (Kp.refl _ _) (fun a z => .inl (by
    rcases put_zo z with (z | z) | z
    · exact .inl (.inl z)
    · exact .inr z
    · exact .inl (.inr z))) _ _ rs
  have ne : ∀ j, c.O j ≠ some p := fun j e => r.zf j p e (.inr rfl)
  refine ⟨by simp only [List.length_set]; exact r.len, r.ln, fun a z => r.zt a (.inl z), fun j v e => ?_, fun j us e => ?_, fun j a e => ?_, fun j1 j2 a e1 e2 => ?_, fun j a e => ?_⟩
  · by_cases hj : i = j
    · subst hj
      rw [List.getElem?_set_self hi] at e
      cases e
    · rw [List.getElem?_set_ne hj] at e
      obtain ⟨w, e1, e2⟩ := r.val j v e
      exact ⟨w, by rw [List.getElem?_set_ne hj]; exact e1, Rep.keep (Kp.refl _ _) hz2 _ _ e2⟩
  · by_cases hj : i = j
    · subst hj
      rw [List.getElem?_set_self hi] at e
      cases e
      exact ⟨p, ws, by show (if i = i then some p else _) = _; rw [if_pos rfl], by rw [List.getElem?_set_self (by rw [r.len]; exact hi)], hp, rs2⟩
    · rw [List.getElem?_set_ne hj] at e
      obtain ⟨a, us', e1, e2, e3, e4⟩ := r.own j us e
      exact ⟨a, us', by show (if j = i then some p else _) = _; rw [if_neg (Ne.symm hj)]; exact e1, by rw [List.getElem?_set_ne hj]; exact e2, e3, Reps.keep (Kp.refl _ _) hz2 _ _ e4⟩
  · have e : (if j = i then some p else c.O j) = some a := e
    by_cases hj : j = i
    · subst hj
      exact ⟨xs, by rw [List.getElem?_set_self hi]⟩
    · rw [if_neg hj] at e
      obtain ⟨vs, e1⟩ := r.ow j a e
      exact ⟨vs, by rw [List.getElem?_set_ne (Ne.symm hj)]; exact e1⟩
  · have e1 : (if j1 = i then some p else c.O j1) = some a := e1
    have e2 : (if j2 = i then some p else c.O j2) = some a := e2
    split at e1 <;> split at e2
    · rename_i h1 h2; rw [h1, h2]
    · cases e1; exact absurd e2 (ne j2)
    · cases e2; exact absurd e1 (ne j1)
    · exact r.inj j1 j2 a e1 e2
  · have e : (if j = i then some p else c.O j) = some a := e
    split at e
    · cases e; exact hz
    · exact fun z => r.zf j a e (.inl z)
theorem put_step {W : Wd} (k : Kp c.oa H H') (hp : H p = none) (h0 : W.own0 = true → i ≠ 0) : StepR W c H (c.put i (some p)) H' := by
  refine ⟨rfl, k, fun a ⟨j, e⟩ => ?_, fun w => ?_⟩
  · have e : (if j = i then some p else c.O j) = some a := e
    split at e
    · cases e; exact .inr hp
    · exact .inl ⟨j, e⟩
  · show (if 0 = i then some p else c.O 0) = _
    rw [if_neg (Ne.symm (h0 w))]
/-- an own list is given up: a datum from now on -/
theorem R.giveup (r : R K c H σ f) (e : f[i]? = some (.own xs)) : ∃ a ws, c.O i = some a ∧ σ[i]? = some (some (.ref a)) ∧ H a = some (.lst ws) ∧ Reps K c.zo H xs ws ∧ ¬ (c.put i none).zo a ∧
    (∀ b, (c.put i none).zo b → c.zo b) ∧ (∀ s, (∀ us, s ≠ .own us) → (∀ v, s = .val v → v = .list xs) → R K (c.put i none) H σ (f.set i s)) := by
  obtain ⟨a, ws, e1, e2, e3, e4⟩ := r.own i xs e
  have hlt : i < f.length := (List.getElem?_eq_some_iff.mp e).1
  have sub : ∀ b, (c.put i none).zo b → c.zo b := fun b z => by
    rcases z with z | ⟨j, z⟩
    · exact .inl z
    · have z : (if j = i then none else c.O j) = some b := z
      split at z
      · cases z
      · exact .inr ⟨j, z⟩
  have na : ¬ (c.put i none).zo a := fun z => by
    rcases z with z | ⟨j, z⟩
    · exact r.zf i a e1 z
    · have z : (if j = i then none else c.O j) = some a := z
      split at z
      · cases z
      · rename_i hj; exact hj (r.inj j i a z e1)
  have hz : ∀ b, (c.put i none).zo b → c.zo b ∨ H b = none := fun b z => .inl (sub b z)
  refine ⟨a, ws, e1, e2, e3, e4, na, sub, fun s hs hv => ⟨by rw [List.length_set]; exact r.len, r.ln, fun a z => r.zt a z, fun j v q => ?_, fun j us q => ?_, fun j b q => ?_, fun j1 j2 b q1 q2 => ?_, fun j b q => ?_⟩⟩
  · by_cases hj : i = j
    · subst hj
      rw [List.getElem?_set_self hlt] at q
      cases q
      have := hv v rfl
      subst this
      refine ⟨_, e2, ?_⟩
      simp only [Rep]
      exact ⟨a, ws, rfl, .inl ⟨e3, na⟩, Reps.keep (Kp.refl _ _) hz _ _ e4⟩
    · rw [List.getElem?_set_ne hj] at q
      obtain ⟨w, q1, q2⟩ := r.val j v q
      exact ⟨w, q1, Rep.keep (Kp.refl _ _) hz _ _ q2⟩
  · by_cases hj : i = j
    · subst hj
      rw [List.getElem?_set_self hlt] at q
      cases q
      exact absurd rfl (hs us)
    · rw [List.getElem?_set_ne hj] at q
      obtain ⟨b, us', q1, q2, q3, q4⟩ := r.own j us q
      exact ⟨b, us', by show (if j = i then none else _) = _; rw [if_neg (Ne.symm hj)]; exact q1, q2, q3, Reps.keep (Kp.refl _ _) hz _ _ q4⟩
  · have q : (if j = i then none else c.O j) = some b := q
    split at q
    · cases q
    · rename_i hj
      obtain ⟨vs, q1⟩ := r.ow j b q
      exact ⟨vs, by rw [List.getElem?_set_ne (Ne.symm hj)]; exact q1⟩
  · have q1 : (if j1 = i then none else c.O j1) = some b := q1
    have q2 : (if j2 = i then none else c.O j2) = some b := q2
    split at q1 <;> split at q2
    · cases q1
    · cases q1
    · cases q2
    · exact r.inj j1 j2 b q1 q2
  · have q : (if j = i then none else c.O j) = some b := q
    split at q
    · cases q
    · exact r.zf j b q
theorem give_step {W : Wd} (h0 : W.own0 = true → i ≠ 0) : StepR W c H (c.put i none) H := by
  refine ⟨rfl, Kp.refl _ _, fun a ⟨j, e⟩ => ?_, fun w => ?_⟩
  · have e : (if j = i then none else c.O j) = some a := e
    split at e
    · cases e
    · exact .inl ⟨j, e⟩
  · show (if 0 = i then none else c.O 0) = _
    rw [if_neg (Ne.symm (h0 w))]
/-- an own list is written -/
theorem R.write (r : R K c H σ f) {us : List Dt} {vs : List V} {a : Addr} {ws0 : List V} (hi : c.O i = some a) (ha : H a = some (.lst ws0)) (z : vs.length ≤ sizeLine) (rs : Reps K c.zo H us vs) :
    R K c (upd H a (.lst vs)) σ (f.set i (.own us)) ∧ Kp c.oa H (upd H a (.lst vs)) := by
  have k : Kp (· = a) H (upd H a (.lst vs)) := ⟨fun b o e q => by
    by_cases hb : b = a
    · subst hb
      rw [ha] at e
      cases e
      exact (q.elim (fun n => n rfl) fun n => n ws0 rfl).elim
    · rw [upd_ne hb]; exact e, fun b e => by
    by_cases hb : b = a
    · subst hb; rw [upd_same]; simp
    · rw [upd_ne hb]; exact e⟩
  have kz : Kp c.zo H (upd H a (.lst vs)) := k.weak fun b e => by rw [e]; exact .inr ⟨i, hi⟩
  refine ⟨r.callO rfl hi k (r.ln.upd fun xs e => ?_) upd_same (Reps.keep kz (fun _ z => .inl z) _ _ rs) (fun _ z => .inl z) (fun b z => ?_) (fun j b e => r.zf j b e), k.weak fun b e => by rw [e]; exact ⟨i, hi⟩⟩
  · rcases e with e | e
    · cases e; exact z
    · cases e
  · obtain ⟨xs, e⟩ := r.zt b z
    by_cases hb : b = a
    · subst hb; exact ⟨vs, upd_same⟩
    · rw [upd_ne hb]; exact ⟨xs, e⟩
end
end Ev


set_option Elab.async false
set_option linter.all false
set_option maxRecDepth 100000
set_option maxHeartbeats 4000000
/-! Ev, part 15: statements, one by one. -/
namespace Ev
open PySem L2 PyProof.Rows
open PySem.W (Frag)

section
variable {K : Frag} {ec : Nat → Value} {Wx : WX} {W : Wd} {c c1 : Cf} {σ : L2.St} {H H1 : Hp} {D : Ends} {x : Ex}
theorem set_red {i : Nat} (q : rdS K ec Wx W (.set i x) D σ H) : tAsg (rdE K ec Wx W x) (gName i) D σ H := by
  obtain ⟨c, f, r, q⟩ := q
  rw [evS] at q
  refine ⟨c, f, r, q.flw.mono fun v f' q w H' r' k' rp _ => ?_⟩
  try dsimp only at q
  split at q
  · rename_i h
    simp only [canSet, Bool.and_eq_true, decide_eq_true_eq, Bool.not_eq_true'] at h
    exact q _ _ c (R.set r' h.1 h.2 rp) (.of k')
  · exact q.elim
theorem setO_red {i : Nat} (q : rdS K ec Wx W (.setO i x) D σ H) : tAsg (rdE K ec Wx W x) (gName i) D σ H := by
  obtain ⟨c, f, r, q⟩ := q
  rw [evS] at q
  split at q
  · rename_i hf
    refine ⟨c, f, r, q.flw.mono fun v f' q w H' r' k' rp nw => ?_⟩
    try dsimp only at q
    split at q
    · rename_i xs
      split at q
      · rename_i h
        simp only [canOwn, Bool.and_eq_true, decide_eq_true_eq, Bool.not_eq_true', Bool.and_eq_false_iff, beq_eq_false_iff_ne] at h
        obtain ⟨p, ws, e1, e2, e3, e4, e5⟩ := nw hf xs rfl
        subst e1
        have hz : ¬ c.Z p := fun z => by
          obtain ⟨xs, e⟩ := r.zt p z
          rw [e2] at e; cases e
        exact q _ _ _ (R.setO e5 h.1 e3 hz e4) (put_step k' e2 fun w => by
          rcases h.2 with h2 | h2
          · rw [w] at h2; cases h2
          · exact h2)
      · exact q.elim
    · exact q.elim
  · exact q.elim
mutual
theorem asg_red2 {K : Frag} {c : Cf} : ∀ (t : Tg) (v : Dt) (w : V) (f f' : Frm) (σ : L2.St) (H : Hp) (Q : L2.St → Hp → Prop), asg t v f = some f' → Rep K c.zo H v w → R K c H σ f → (∀ σ' H', R K c H' σ' f' → Kp c.oa H H' → Q σ' H') → gOf K t w σ H Q
  | .name i, v, w, f, f', σ, H, Q, e, rp, r, q => asg_red (.name i) v w f f' σ Q rfl e rp r fun σ' r' _ => q σ' H r' (Kp.refl _ _)
  | .sub i j, v, w, f, f', σ, H, Q, e, rp, r, q => by
    simp only [asg] at e
    split at e
    · rename_i xs k hx hk
      obtain ⟨ys, hy, rfl⟩ := Option.map_eq_some_iff.mp e
      obtain ⟨a, ws, p1, p2, p3, p4⟩ := r.own i xs (getO_some hx)
      obtain ⟨wk, p5, p6⟩ := r.val j _ (getV_some hk)
      simp only [Rep] at p6
      subst p6
      unfold setAt at hy
      obtain ⟨n, hn, rfl⟩ := Option.map_eq_some_iff.mp hy
      obtain ⟨r3, k3⟩ := R.write (vs := ws.set n w) r p1 p3 (by rw [List.length_set]; exact r.ln a ws (.inl p3)) (Reps.set rp n p4)
      simp only [gOf]
      exact ⟨.ref a, p2, .int k, p5, a, ws, k, n, rfl, rfl, p3, by rw [p4.length]; exact hn, q _ _ r3 k3⟩
    · cases e
  | .tup ts, v, w, f, f', σ, H, Q, e, rp, r, q => by
    cases v with
    | tuple us =>
      simp only [asg] at e
      simp only [Rep] at rp
      obtain ⟨a, ws, rfl, q1, s1⟩ := rp
      simp only [gOf]
      exact ⟨a, ws, rfl, q1, by rw [s1.length]; exact asgs_len e, asgs_red2 ts us ws f f' σ H Q e s1 r q⟩
    | _ => simp [asg] at e
theorem asgs_red2 {K : Frag} {c : Cf} : ∀ (t : Tgs) (v : List Dt) (w : List V) (f f' : Frm) (σ : L2.St) (H : Hp) (Q : L2.St → Hp → Prop), asgs t v f = some f' → Reps K c.zo H v w → R K c H σ f → (∀ σ' H', R K c H' σ' f' → Kp c.oa H H' → Q σ' H') → gsOf K t w σ H Q
  | .nil, [], w, f, f', σ, H, Q, e, rp, r, q => by
    simp only [asgs, Option.some.injEq] at e
    subst e
    simp only [Reps] at rp
    simp only [gsOf]
    exact ⟨rp, q σ H r (Kp.refl _ _)⟩
  | .cons t ts, v :: vs, w, f, f', σ, H, Q, e, rp, r, q => by
    simp only [asgs, Option.bind_eq_some_iff] at e
    obtain ⟨g, e1, e2⟩ := e
    simp only [Reps] at rp
    obtain ⟨w1, wr, rfl, p1, p2⟩ := rp
    simp only [gsOf]
    exact ⟨w1, wr, rfl, asg_red2 t v w1 f g σ H _ e1 p1 r fun σ1 H1 r1 k1 => asgs_red2 ts vs wr g f' σ1 H1 Q e2 (Reps.keep k1.zo (fun _ z => .inl z) _ _ p2) r1 fun σ2 H2 r2 k2 => q σ2 H2 r2 (k1.trans k2 fun _ z => .inl z)⟩
  | .nil, _ :: _, w, f, f', σ, H, Q, e, rp, r, q => by simp [asgs] at e
  | .cons _ _, [], w, f, f', σ, H, Q, e, rp, r, q => by simp [asgs] at e
end
theorem setT_red {tg : Tg} (q : rdS K ec Wx W (.setT tg x) D σ H) : tAsg (rdE K ec Wx W x) (gOf K tg) D σ H := by
  obtain ⟨c, f, r, q⟩ := q
  rw [evS] at q
  refine ⟨c, f, r, q.flw.mono fun v f' q w H' r' k' rp _ => ?_⟩
  cases ha : asg tg v f' with
  | none => rw [ha] at q; exact q.elim
  | some g =>
    rw [ha] at q
    exact asg_red2 tg v w f' g _ _ _ ha rp r' fun σ2 H2 r2 k2 => q _ _ c r2 (.of (k'.trans k2 fun _ z => .inl z))
theorem setAll_red : ∀ {is : List Nat} {vs : List Dt} {ws : List V} {f f' : Frm} {σ : L2.St}, setAll is vs f = some f' → Reps K c.zo H vs ws → R K c H σ f → ws.length = is.length ∧ R K c H ((is.zip ws).foldl (fun s p => s.set p.1 (some p.2)) σ) f'
  | [], [], ws, f, f', σ, e, rs, r => by
    simp only [setAll, Option.some.injEq] at e
    subst e
    simp only [Reps] at rs
    subst rs
    exact ⟨rfl, r⟩
  | [], _ :: _, _, _, _, _, e, _, _ => by simp [setAll] at e
  | _ :: _, [], _, _, _, _, e, _, _ => by simp [setAll] at e
  | i :: is, v :: vs, ws, f, f', σ, e, rs, r => by
    simp only [setAll] at e
    split at e
    · cases e
    · rename_i h
      simp only [Bool.or_eq_true, decide_eq_true_eq, not_or, Bool.not_eq_true, Nat.not_le] at h
      simp only [Reps] at rs
      obtain ⟨w, rr, rfl, h1, h2⟩ := rs
      obtain ⟨hl, hr⟩ := setAll_red e h2 (R.set r h.2 h.1 h1)
      exact ⟨by show rr.length + 1 = is.length + 1; rw [hl], hr⟩
theorem par_red {i j : Nat} {es : Exs} (q : rdS K ec Wx W (.par [i, j] es) D σ H) : tPar i j (rdA K ec Wx W es) D σ H := by
  obtain ⟨c, f, r, q⟩ := q
  rw [evS] at q
  refine ⟨c, f, r, (SatF.res (σ := σ) (g := fun ps g => match plain ps with | some vs => asgF (setAll [i, j] vs g) | none => .stuck) (by cases evPs W es f <;> rfl) q).mono fun ps f' q ws H' r' k' rp => ?_⟩
  try dsimp only at q
  cases hp : plain ps with
  | none => rw [hp] at q; exact q.elim
  | some vs =>
    rw [hp] at q
    try dsimp only at q
    cases ha : setAll [i, j] vs f' with
    | none => rw [ha] at q; exact q.elim
    | some g =>
      rw [ha] at q
      obtain ⟨hl, hr⟩ := setAll_red ha (RepPs.plain rp hp) r'
      match ws, hl with
      | [v, w], _ => exact ⟨v, w, rfl, q _ _ c hr (.of k')⟩
theorem aug_red {i : Nat} {o : Op} {g : Int → Int → Int} (ho : ∀ x v y, evAug o x v = some y → ∃ a b, x = .int a ∧ v = .int b ∧ y = .int (g a b)) (q : rdS K ec Wx W (.aug i o x) D σ H) : tAug i (rdE K ec Wx W x) (ipI g) D σ H := by
  obtain ⟨c, f, r, q⟩ := q
  rw [evS] at q
  split at q
  · rename_i x0 e0
    obtain ⟨w0, e1, rp0⟩ := r.val i x0 (getV_some e0)
    refine ⟨w0, e1, c, f, r, q.flw.mono fun v f' q w H' r' k' rp _ => ?_⟩
    try dsimp only at q
    split at q
    · rename_i y hy
      obtain ⟨a, b, rfl, rfl, rfl⟩ := ho _ _ _ hy
      split at q
      · rename_i h
        simp only [canSet, Bool.and_eq_true, decide_eq_true_eq, Bool.not_eq_true'] at h
        simp only [Rep] at rp0 rp
        exact ⟨a, b, rp0, rp, q _ _ c (R.set r' h.1 h.2 (by simp only [Rep])) (.of k')⟩
      · exact q.elim
    · exact q.elim
  · exact q.elim
theorem own_var {f : Frm} {i : Nat} (r : R K c H σ f) (h : isOwn f i = true) : ∃ a ws vs, c.O i = some a ∧ σ[i]? = some (some (.ref a)) ∧ H a = some (.lst ws) ∧ f[i]? = some (.own vs) ∧ Reps K c.zo H vs ws := by
  obtain ⟨vs, e⟩ := isOwn_some h
  obtain ⟨a, ws, e1, e2, e3, e4⟩ := r.own i vs e
  exact ⟨a, ws, vs, e1, e2, e3, e, e4⟩
theorem app_red {i : Nat} (q : rdS K ec Wx W (.app i x) D σ H) : tDrop (tBM K "list" rAppend (tVar i) (tCons (rdE K ec Wx W x) tNil)) D σ H := by
  obtain ⟨c, f, r, q⟩ := q
  rw [evS] at q
  split at q
  · rename_i ho
    obtain ⟨a, ws, vs, o1, o2, o3, o4, o5⟩ := own_var r ho
    refine ⟨.ref a, o2, .inl ⟨rfl, ws, .inl (.inl o3)⟩, c, f, r, q.flw.mono fun v f' q w H' r' k' rp _ => ?_⟩
    try dsimp only at q
    split at q
    · rename_i xs hx
      split at q
      · rename_i hl
        obtain ⟨a', ws', p1, p2, p3, p4⟩ := r'.own i xs (getO_some hx)
        rw [o1] at p1
        cases p1
        have hlen : ws'.length < sizeLine := by
          rw [p4.length, sizeLine_eq]
          exact hl
        obtain ⟨r2, k2⟩ := R.write (vs := ws' ++ [w]) r' o1 p3 (by rw [List.length_append]; exact hlen) (p4.append (.one rp))
        exact ⟨a, ws', w, rfl, rfl, p3, hlen, q _ _ c r2 (.of (k'.trans k2 fun _ z => .inl z))⟩
      · exact q.elim
    · exact q.elim
  · exact q.elim
theorem ext_red {i : Nat} (q : rdS K ec Wx W (.ext i x) D σ H) : tDrop (tBM K "list" rExtend (tVar i) (tCons (rdE K ec Wx W x) tNil)) D σ H := by
  obtain ⟨c, f, r, q⟩ := q
  rw [evS] at q
  split at q
  · rename_i ho
    rw [Bool.and_eq_true] at ho
    obtain ⟨a, ws, vs, o1, o2, o3, o4, o5⟩ := own_var r ho.2
    refine ⟨.ref a, o2, .inl ⟨rfl, ws, .inl (.inl o3)⟩, c, f, r, q.flw.mono fun v f' q w H' r' k' rp nw => ?_⟩
    try dsimp only at q
    split at q
    · rename_i xs ys hx
      split at q
      · rename_i hl
        obtain ⟨a', ws', p1, p2, p3, p4⟩ := r'.own i xs (getO_some hx)
        rw [o1] at p1
        cases p1
        obtain ⟨b, zs, e1, e2, e3, e4, e5⟩ := nw ho.1 ys rfl
        subst e1
        have e4' : Reps K c.zo H' ys zs := Reps.keep (Kp.refl _ _) (fun _ z => .inl (.inl z)) _ _ e4
        have hlen : ws'.length + zs.length ≤ sizeLine := by
          rw [p4.length, e4'.length, sizeLine_eq]
          exact Nat.le_of_lt hl
        obtain ⟨r2, k2⟩ := R.write (vs := ws' ++ zs) r' o1 p3 (by rw [List.length_append]; exact hlen) (p4.append e4')
        exact ⟨a, b, ws', zs, rfl, rfl, p3, e3, hlen, q _ _ c r2 (.of (k'.trans k2 fun _ z => .inl z))⟩
      · exact q.elim
    · exact q.elim
  · exact q.elim
theorem sto_red {i : Nat} {ix : Ex} (q : rdS K ec Wx W (.sto i ix x) D σ H) : tAsg (rdE K ec Wx W x) (gSub (tVar i) (rdE K ec Wx W ix) rSetL) D σ H := by
  obtain ⟨c, f, r, q⟩ := q
  rw [evS] at q
  refine ⟨c, f, r, q.flw.mono fun v f1 q w H1 r1 k1 rp _ => ?_⟩
  try dsimp only at q
  split at q
  · rename_i ho
    obtain ⟨a, ws, vs, o1, o2, o3, o4, o5⟩ := own_var r1 ho
    refine ⟨.ref a, o2, c, f1, r1, (q.flw.move k1).mono fun k f2 q w2 H2 r2 k2 rp2 _ => ?_⟩
    try dsimp only at q
    split at q
    · rename_i xs kk hx _
      split at q
      · rename_i ys hy
        obtain ⟨a', ws', p1, p2, p3, p4⟩ := r2.own i xs (getO_some hx)
        rw [o1] at p1
        cases p1
        unfold setAt at hy
        rw [Option.map_eq_some_iff] at hy
        obtain ⟨j, hj, rfl⟩ := hy
        simp only [Rep] at rp2
        obtain ⟨r3, k3⟩ := R.write (vs := ws'.set j w) r2 o1 p3 (by rw [List.length_set]; exact r2.ln a ws' (.inl p3)) (Reps.set (rp.go k2) j p4)
        exact ⟨a, ws', kk, j, rfl, rp2, p3, by rw [p4.length]; exact hj, q _ _ c r3 (.of ((k1.trans k2 fun _ z => .inl z).trans k3 fun _ z => .inl z))⟩
      · exact q.elim
    · exact q.elim
  · exact q.elim
theorem exp_red (q : rdS K ec Wx W (.exp x) D σ H) : tDrop (rdE K ec Wx W x) D σ H := by
  obtain ⟨c, f, r, q⟩ := q
  rw [evS] at q
  exact ⟨c, f, r, q.flw.mono fun v f' q w H' r' k' rp _ => q _ _ c r' (.of k')⟩
theorem retV_red {i : Nat} (q : rdS K ec Wx W (.ret (.var i)) D σ H) : tRet (rdP K ec Wx W (.var i)) D σ H := by
  obtain ⟨c, f, r, q⟩ := q
  rw [evS] at q
  refine ⟨c, f, r, ?_⟩
  unfold evP
  cases ho : ownVar (.var i) f with
  | none =>
    rw [ho] at q
    try dsimp only at q
    split at q
    · exact q.elim
    · rename_i hf
      have hf : W.fresh0 ≠ true := fun z => hf (by rw [z]; rfl)
      have q := q.flw (σ := σ)
      show Sat K ec Wx c σ H ((evE W (.var i) f).bind fun x => .ok (Pv.v x.1, x.2)) _
      cases he : evE W (.var i) f with
      | ok p => rw [he] at q; exact fun w H' r' k' rp => q w σ H' c r' (.of k') rp fun z => absurd z hf
      | exc e g => rw [he] at q; exact q
      | stuck => rw [he] at q; exact q
  | some j =>
    rw [ho] at q
    try dsimp only at q
    split at q
    · rename_i hc
      simp only [canOwn, Bool.and_eq_true, decide_eq_true_eq, Bool.not_eq_true', Bool.and_eq_false_iff, beq_eq_false_iff_ne] at hc
      have h0 : W.own0 = true → j ≠ 0 := fun w => by
        rcases hc.2 with h2 | h2
        · rw [w] at h2; cases h2
        · exact h2
      split at q
      · rename_i xs hx
        intro w H' r' k' rp
        obtain ⟨a, ws, e1, e2, e3, e4, na, sub, gv⟩ := R.giveup r' (getO_some hx)
        have rp : σ[j]? = some (some w) := rp
        rw [e2] at rp
        cases rp
        have rno := gv .no (fun _ => nofun) (fun _ => nofun)
        have st : StepR W c H (c.put j none) H' := (StepR.of k').trans (give_step h0)
        have rpl : R K ((c.put j none).plus a) H' σ (f.set j .no) := by
          have hz : ∀ b, ((c.put j none).plus a).zo b → c.zo b ∨ H' b = none := fun b z => by
            rcases z with (z | z) | z
            · exact .inl (sub b (.inl z))
            · rw [z]; exact .inl (.inr ⟨j, e1⟩)
            · exact .inl (sub b (.inr z))
          have hlt : j < f.length := hc.1
          refine ⟨rno.len, rno.ln, fun b z => ?_, fun l v e => ?_, fun l us e => ?_, rno.ow, rno.inj, fun l b e z => ?_⟩
          · rcases z with z | z
            · exact rno.zt b z
            · rw [z]; exact ⟨ws, e3⟩
          · by_cases hl : j = l
            · subst hl
              rw [List.getElem?_set_self hlt] at e
              cases e
            · rw [List.getElem?_set_ne hl] at e
              obtain ⟨w, q1, q2⟩ := r'.val l v e
              exact ⟨w, q1, Rep.keep (Kp.refl _ _) hz _ _ q2⟩
          · by_cases hl : j = l
            · subst hl
              rw [List.getElem?_set_self hlt] at e
              cases e
            · rw [List.getElem?_set_ne hl] at e
              obtain ⟨b, us', q1, q2, q3, q4⟩ := r'.own l us e
              exact ⟨b, us', by show (if l = j then none else _) = _; rw [if_neg (Ne.symm hl)]; exact q1, q2, q3, Reps.keep (Kp.refl _ _) hz _ _ q4⟩
          · rcases z with z | z
            · exact rno.zf l b e z
            · rw [z] at e; exact na (.inr ⟨l, e⟩)
        refine q _ σ H' _ rno st ?_ fun _ us e => ?_
        · simp only [Rep]
          exact ⟨a, ws, rfl, .inl ⟨e3, na⟩, Reps.keep (Kp.refl _ _) (fun b z => .inl (sub b z)) _ _ e4⟩
        · cases e
          exact ⟨a, ws, rfl, .inr ⟨j, e1, h0⟩, e3, Reps.keep (Kp.refl _ _) (fun b z => .inl (z.elim (sub b) fun z => by rw [z]; exact .inr ⟨j, e1⟩)) _ _ e4, rpl⟩
      · exact q.elim
    · exact q.elim
theorem ret_red (n : ∀ i, x ≠ .var i) (q : rdS K ec Wx W (.ret x) D σ H) : tRet (rdE K ec Wx W x) D σ H := by
  obtain ⟨c, f, r, q⟩ := q
  rw [evS] at q
  rw [show ownVar x f = none from by unfold ownVar; cases x <;> first | rfl | exact absurd rfl (n _)] at q
  try dsimp only at q
  split at q
  · exact q.elim
  · rename_i hf
    refine ⟨c, f, r, q.flw.mono fun v f' q w H' r' k' rp nw => q w σ H' c r' (.of k') rp fun w0 us e => ?_⟩
    have hx : isFr W x = true := by
      cases h : isFr W x with
      | true => rfl
      | false => rw [w0, h] at hf; exact absurd rfl hf
    obtain ⟨p, ws, e1, e2, e3, e4, e5⟩ := nw hx us e
    exact ⟨p, ws, e1, .inl e2, e3, e4, e5⟩
theorem retN_red (q : rdS K ec Wx W (.ret .non) D σ H) : tRetN D σ H := by
  obtain ⟨c, f, r, q⟩ := q
  rw [evS] at q
  dsimp only [ownVar] at q
  split at q
  · exact q.elim
  · rw [evE] at q
    exact q .non σ H c r (.refl _ _ _) (by simp only [Rep]) fun _ _ => nofun
theorem ite_red {a b : Sxs} (q : rdS K ec Wx W (.ite x a b) D σ H) : tIfS (rdT K ec Wx W x) (rdSs K ec Wx W a) (rdSs K ec Wx W b) D σ H := by
  obtain ⟨c, f, r, q⟩ := q
  rw [evS] at q
  refine ⟨c, f, r, q.flw.mono fun v f' q => ?_⟩
  try dsimp only at q
  split at q
  · exact ⟨true, rfl, fun H' r' k' => iteT ⟨c, f', r', q.move (.of k') r'.inj⟩⟩
  · exact ⟨false, rfl, fun H' r' k' => iteF ⟨c, f', r', q.move (.of k') r'.inj⟩⟩
  · exact q.elim
theorem whl_red {b : Sxs} (q : rdS K ec Wx W (.whl x b) D σ H) : tWhile (rdT K ec Wx W x) (rdSs K ec Wx W b) D σ H := by
  obtain ⟨c, f, r, q⟩ := q
  rw [evS] at q
  refine ⟨fun m σ' H' => ∃ c' g, R K c' H' σ' g ∧ SatF K ec Wx W c' H' D (whlLoop (evE W x) (evSs W b) m g), ⟨W.fuel, c, f, r, q⟩, ?_⟩
  rintro m σ1 H1 ⟨c1, g, r1, q⟩
  cases m with
  | zero => exact q.elim
  | succ n =>
    refine ⟨c1, g, r1, (SatF.res (σ := σ1) (g := fun v g' => match v with
      | .bool true => (match evSs W b g' with
        | .next h => whlLoop (evE W x) (evSs W b) n h
        | .cont h => whlLoop (evE W x) (evSs W b) n h
        | .brk h => .next h
        | r => r)
      | .bool false => .next g'
      | _ => .stuck) ?_ q).mono fun v g1 q => ?_⟩
    · rw [whlLoop]
      cases evE W x g with
      | ok p =>
        obtain ⟨v, g'⟩ := p
        cases v with
        | bool b => cases b <;> rfl
        | _ => rfl
      | exc k g => rfl
      | stuck => rfl
    · try dsimp only at q
      split at q
      · refine ⟨true, rfl, fun H2 r2 k2 => iteT ⟨fun σ' H' => ∃ c' g, R K c' H' σ' g ∧ SatF K ec Wx W c' H' D (whlLoop (evE W x) (evSs W b) n g), fun σ' H' h => ⟨n, Nat.lt_succ_self _, h⟩, c1, g1, r2, ?_⟩⟩
        have q := q.move (.of k2) r2.inj
        cases hb : evSs W b g1 with
        | next h => rw [hb] at q; exact fun σ' H' c' r' s => ⟨c', h, r', q.move s r'.inj⟩
        | cont h => rw [hb] at q; exact fun σ' H' c' r' s => ⟨c', h, r', q.move s r'.inj⟩
        | brk h => rw [hb] at q; exact q
        | ret v h => rw [hb] at q; exact q
        | exc k h => rw [hb] at q; exact q
        | stuck => rw [hb] at q; exact q
      · exact ⟨false, rfl, fun H2 r2 k2 => iteF (q _ _ c1 r2 (.of k2))⟩
      · exact q.elim
theorem for_red {tg : Tg} {it : Itx} {b : Sxs} (h0 : noSub tg = true) (q : rdS K ec Wx W (.forr tg it b) D σ H) : tFor (rdI K ec Wx W it) (gOf K tg) (rdSs K ec Wx W b) D σ H := by
  obtain ⟨c, f, r, q⟩ := q
  rw [evS] at q
  refine ⟨c, f, r, (SatF.res (σ := σ) (g := fun xs g => forLoop tg (evSs W b) xs g) (by cases evI W it f <;> rfl) q).mono fun items f1 q J H1 r1 k1 hlen io => ?_⟩
  refine ⟨fun i m σ' H' => m = items.length - i ∧ i ≤ items.length ∧ ∃ c' g, R K c' H' σ' g ∧ StepR W c H1 c' H' ∧ SatF K ec Wx W c' H' D (forLoop tg (evSs W b) (items.drop i) g),
    ⟨items.length, by omega, Nat.zero_le _, c, f1, r1, .refl _ _ _, by rw [List.drop_zero]; exact q.move (.of k1) r1.inj⟩, ?_⟩
  rintro i m σ2 H2 ⟨rfl, hi, c2, g, r2, s2, q⟩
  obtain ⟨igo, istop⟩ := io H2 c2.zo s2.k.zo s2.zo r2.ln
  by_cases hlt : i < items.length
  · right
    have ei : items[i]? = some items[i] := List.getElem?_eq_getElem hlt
    obtain ⟨go, yl⟩ := igo i _ ei
    refine ⟨go, fun σ' H' => ∃ c' g, R K c' H' σ' g ∧ StepR W c H1 c' H' ∧ SatF K ec Wx W c' H' D (forLoop tg (evSs W b) (items.drop (i + 1)) g), fun σ' H' h => ⟨items.length - (i + 1), by omega, rfl, hlt, h⟩, fun x H3 hy => ?_⟩
    obtain ⟨sm, l3, rx⟩ := yl x H3 hy
    rw [List.drop_eq_getElem_cons hlt, forLoop] at q
    have r3 := r2.same sm l3
    have s3 : StepR W c2 H2 c2 H3 := .of (Kp.of_same sm)
    cases ha : asg tg items[i] g with
    | none => rw [ha] at q; exact q.elim
    | some g1 =>
      rw [ha] at q
      try dsimp only at q
      have q := q.move s3 r3.inj
      refine asg_red tg items[i] x g g1 _ _ h0 ha rx r3 fun σ4 r4 hw => ⟨c2, g1, r4, ?_⟩
      have s4 := s2.trans s3
      cases hb : evSs W b g1 with
      | next h => rw [hb] at q; exact fun σ' H' c' r' s => ⟨c', h, r', s4.trans s, q.move s r'.inj⟩
      | cont h => rw [hb] at q; exact fun σ' H' c' r' s => ⟨c', h, r', s4.trans s, q.move s r'.inj⟩
      | brk h => rw [hb] at q; exact q
      | ret v h => rw [hb] at q; exact q
      | exc k h => rw [hb] at q; exact q
      | stuck => rw [hb] at q; exact q
  · left
    have e : i = items.length := by omega
    subst e
    refine ⟨istop, ?_⟩
    rw [List.drop_length, forLoop] at q
    exact q _ _ c2 r2 (.refl _ _ _)
end
end Ev


set_option Elab.async false
set_option linter.all false
set_option maxRecDepth 100000
set_option maxHeartbeats 4000000
/-! Ev, part 16: every statement, by its shape. -/
namespace Ev
open PySem L2 PyProof.Rows
open PySem.W (Frag)

section
variable {K : Frag} {ec : Nat → Value} {Wx : WX} {W : Wd} {σ : L2.St} {H : Hp} {D : Ends}
theorem seq_red {s : Sx} {ss : Sxs} (q : rdSs K ec Wx W (.cons s ss) D σ H) : tSeq (rdS K ec Wx W s) (rdSs K ec Wx W ss) D σ H := by
  obtain ⟨c, f, r, q⟩ := q
  rw [evSs] at q
  refine ⟨c, f, r, ?_⟩
  cases hs : evS W s f with
  | next g => rw [hs] at q; exact fun σ' H' c' r' s' => ⟨c', g, r', q.move s' r'.inj⟩
  | cont h => rw [hs] at q; exact q
  | brk h => rw [hs] at q; exact q
  | ret v h => rw [hs] at q; exact q
  | exc k h => rw [hs] at q; exact q
  | stuck => rw [hs] at q; exact q
theorem frz_red {i : Nat} {ss : Sxs} (q : rdSs K ec Wx W (.cons (.frz i) ss) D σ H) : rdSs K ec Wx W ss D σ H := by
  obtain ⟨c, f, r, q⟩ := q
  rw [evSs, evS] at q
  by_cases hc : canOwn W f i = true
  · rw [if_pos hc] at q
    simp only [canOwn, Bool.and_eq_true, decide_eq_true_eq, Bool.not_eq_true', Bool.and_eq_false_iff, beq_eq_false_iff_ne] at hc
    have h0 : W.own0 = true → i ≠ 0 := fun w => by
      rcases hc.2 with h2 | h2
      · rw [w] at h2; cases h2
      · exact h2
    cases hx : getO f i with
    | none => rw [hx] at q; exact q.elim
    | some xs =>
      rw [hx] at q
      obtain ⟨a, ws, e1, e2, e3, e4, na, sub, gv⟩ := R.giveup r (getO_some hx)
      have r' := gv (.val (.list xs)) (fun _ => nofun) (fun v e => by cases e; rfl)
      exact ⟨_, _, r', q.move (give_step h0) r'.inj⟩
  · rw [if_neg hc] at q
    exact q.elim
end
theorem _root_.L2.PS.weak {X : Cx} {e : Stmt} {t t' : TS} (h : PS X e t) (i : ∀ D σ H, t' D σ H → t D σ H) : PS X e t' := ⟨fun pins s σ H D I q => h.run pins s σ H D I (i _ _ _ q)⟩
theorem _root_.L2.PSs.weak {X : Cx} {e : List Stmt} {t t' : TS} (h : PSs X e t) (i : ∀ D σ H, t' D σ H → t D σ H) : PSs X e t' := ⟨fun pins s σ H D I q => h.run pins s σ H D I (i _ _ _ q)⟩
/-- what stands around a statement -/
structure Bd (X : Cx) (sc : Scope) (Wx : WX) : Prop where
  es : X.env.scope = sc
  fk : X.env.scope.kind = .function
  tk : Takes X Wx
  ps : PassesOwn (model X.prog X.w) X.A X.env X.xe
  st : X.stack = X.env :: X.outer
  fr : X.env.frame = some X.env.locals
  fl : ∀ x, isLoc sc x = true → X.fn x = true ∨ X.env.scope.names.lookup x = some .local
theorem Bd.loc {X : Cx} {sc : Scope} {Wx : WX} (b : Bd X sc Wx) {x : Str} (h : isLoc sc x = true) : Loc X.env.scope x := by rw [b.es]; exact isLoc_ok h
theorem Bd.tgl {X : Cx} {sc : Scope} {Wx : WX} (b : Bd X sc Wx) : ∀ x, isLoc sc x = true → Loc X.env.scope x ∧ (X.fn x = true ∨ X.env.scope.names.lookup x = some .local) := fun x h => ⟨b.loc h, b.fl x h⟩
theorem Bd.bk {X : Cx} {sc : Scope} {Wx : WX} (b : Bd X sc Wx) : X.env.blockKind = .function := by unfold Env.blockKind; rw [b.fk]; rfl
theorem Gd.tr {X : Cx} {T : Tab} {d : Nat} {ec : Nat → Value} (g : Gd X T d ec) (pn : List (Addr × Obj)) (xe : Value → Shared → Prop) : Gd (X.tr pn xe) T d ec := ⟨g.calm, g.nd, g.gds, g.room, g.blt, g.glob, g.fns, g.xmk, g.exm⟩
theorem Bd.tr {X : Cx} {sc : Scope} {Wx W2 : WX} (b : Bd X sc Wx) {pn : List (Addr × Obj)} {xe : Value → Shared → Prop} (tk : Takes (X.tr pn xe) W2) (ps : PassesOwn (model X.prog X.w) X.A X.env xe) : Bd (X.tr pn xe) sc W2 := ⟨b.es, b.fk, tk, ps, b.st, b.fr, b.fl⟩
/-- does the comprehension run in the name's own place? -/
theorem sw_eq {X : Cx} {sc : Scope} {Wx : WX} (b : Bd X sc Wx) {elt : Expr} {gs : List Comprehension} {bs : Scope} {pos py : Pos} {y : Str} {l : Nat} : swapsWith (.ListComp elt gs bs pos) (some (.Name y py)) l X.env = pure (swapsB sc y py bs pos) := by
  unfold swapsWith swapsB kindIs
  rw [← b.es]
  simp only [b.bk, Env.kindOf, Expr.pos]
  congr 1
  cases X.env.scope.names.lookup y with
  | none => rfl
  | some k => cases k <;> rfl
section
variable {ec : Nat → Value} {T : Tab} {d : Nat} {P : TrP} {o0 f0 : Bool} {X : Cx} {sc : Scope} {Wx : WX}
variable (hP : P.fns = T.fns.map (·.name))
include hP
/-- name = value -/
theorem asgName {i : Nat} {x : Ex} {y : Str} {v : Expr} {py pos : Pos} (h : trE P sc x v = true) (G : Gd X T d ec) (hN : X.N = P.N) (b : Bd X sc Wx) (hi : P.N[i]? = some y) (hy : isLoc sc y = true) (hlc : lcOk x v = true) :
    PS X (.Assign [.Name y py] v pos) (tAsg (rdE X.K ec Wx (T.wd (T.call d) o0 f0) x) (gName i)) := by
  have A := exA (o0 := o0) (f0 := f0) hP x v X sc Wx h G hN b.es b.tk
  have hi : X.N[i]? = some y := by rw [hN]; exact hi
  cases v with
  | ListComp elt gs bs p =>
    cases hs : swapsB sc y py bs p with
    | false => exact ps_set G.nd hi (b.loc hy) A.pe (by rw [sw_eq b, hs]) (b.fl y hy)
    | true =>
      cases x with
      | comp vs tg it cs e =>
        unfold trE at h
        split at h <;> first | contradiction | skip
        rename_i e1 e2
        cases e1
        cases e2
        rename_i et ei ifs
        simp only [Bool.and_eq_true, decide_eq_true_eq] at h
        obtain ⟨⟨⟨⟨⟨⟨h1, h2⟩, h3⟩, h4⟩, h5⟩, h6⟩, h7⟩ := h
        have I := itA (o0 := o0) (f0 := f0) hP it _ _ X sc Wx h1 G hN b.es b.tk
        have hyl : X.env.scope.names.lookup y = some .local := by
          simp only [swapsB, Bool.and_eq_true] at hs
          rw [b.es]
          exact kindIs_some hs.1.1
        have hsw : ∀ gs, swapsWith (.ListComp elt gs bs p) (some (.Name y py)) pos.line X.env = pure true := fun gs => by rw [sw_eq b, hs]
        have := b.es
        subst this
        refine (ps_setLc G.calm G.nd hi hyl (hsw _) (I.1 _ (trT_tup h3)) (blkOk_by (by rw [hN]; exact h2)) (fun s H C cl fp => tgt (X := X.blk s H _ _ fp) G.nd G.calm blk_loc tg _ (.inl (tgIn_sub tg h4)) (by rw [hN]; exact h3)) (fun s H C cl fp => ?_) (fun s H C cl fp => ?_) (I.2 X.env)).weak fun D σ H q => by
          rw [ownOf_snd]; exact comp_red h4 q
        · have C := exsA (o0 := o0) (f0 := f0) hP cs _ (X.blk s H bs (compEnvC bs cl C X.env) fp) _ Wf h6 (G.blk ..) hN rfl takes_blk
          exact pts_cs h6 h5 C.2
        · exact (exA (o0 := o0) (f0 := f0) hP e _ (X.blk s H bs (compEnvC bs cl C X.env) fp) _ Wf h7 (G.blk ..) hN rfl takes_blk).pe
      | _ => cases hlc
  | SetComp _ _ _ _ => cases hlc
  | DictComp _ _ _ _ _ => cases hlc
  | _ => exact ps_set G.nd hi (b.loc hy) A.pe rfl (b.fl y hy)
omit hP in
theorem sw_par (b : Bd X sc Wx) {x y : Str} {px py pt pt2 : Pos} {kt k2 : Nat} {e1 e2 : Expr} (hx : kindIs sc x .local = true) (hy : kindIs sc y .local = true) (hxy : x ≠ y) (hl : (py.line == px.line) = true) (h1 : noStar e1 = true) (h2 : noStar e2 = true)
    (hf : [e1, e2].all (foldedForSure 8) = false) (hc : [e1, e2].all (constantsAlone 8) = false) : swappedStores [.Tuple [.Name x px, .Name y py] kt pt] (.Tuple [e1, e2] k2 pt2) X.env = pure (some [x, y]) := by
  have kx : X.env.kindOf x = some .local := by unfold Env.kindOf; rw [b.es]; exact kindIs_some hx
  have ky : X.env.kindOf y = some .local := by unfold Env.kindOf; rw [b.es]; exact kindIs_some hy
  have f1 : ∀ e : Expr, noStar e = true → (match e with | .Starred .. => true | _ => false) = false := fun e h => by
    cases e <;> first | rfl | cases h
  have hl := eq_of_beq hl
  have ne : (x == y) = false := by simpa using hxy
  have ne2 : (y == x) = false := by simpa using fun h : y = x => hxy h.symm
  unfold swappedStores
  simp only [b.bk, List.length_cons, List.length_nil, List.head?_cons, Option.map_some, Option.getD_some, Expr.pos, List.filterMap_cons, List.filterMap_nil, kx, ky, hl, hf, hc]
  simp [List.eraseDups, List.eraseDupsBy, List.eraseDupsBy.loop, ne, ne2, kx, ky, hl, hf, hc]
  intro h
  rcases h with h | h
  · exact absurd ((f1 e1 h1).symm.trans h) (by decide)
  · exact absurd ((f1 e2 h2).symm.trans h) (by decide)
omit hP in
theorem swNone_ok (b : Bd X sc Wx) {t v : Expr} (h : swNone sc t v = true) : swappedStores [t] v X.env = pure none := by
  unfold swNone at h
  split at h
  · rename_i ts k p vs k2 p2
    unfold swappedStores
    dsimp only [pure_bind]
    generalize hn : (ts.filterMap _) = names
    split
    · rfl
    · split
      · rfl
      · split
        · rfl
        · rename_i c3
          rw [Bool.or_eq_true] at h
          rcases h with h | h
          · exfalso
            apply c3
            rw [Bool.or_eq_true]
            left
            have key : ∀ (g : Expr → Option Str) (l : List Expr), (∀ e, (match e with | .Name id _ => kindIs sc id .local | _ => false) = false → g e = none) → (l.any fun t => !(match t with | .Name id _ => kindIs sc id .local | _ => false)) = true → (l.filterMap g).length < l.length := fun g l hg => by
              induction l with
              | nil => intro h; cases h
              | cons a r ih =>
                intro h
                have le : (r.filterMap g).length ≤ r.length := List.length_filterMap_le g r
                rw [List.filterMap_cons]
                rw [List.any_cons, Bool.or_eq_true] at h
                cases ha : (match a with | .Name id _ => kindIs sc id .local | _ => false) with
                | false =>
                  rw [hg a ha]
                  exact Nat.lt_succ_of_le le
                | true =>
                  rcases h with h | h
                  · rw [ha] at h; cases h
                  · have := ih h
                    cases g a with
                    | none => exact Nat.lt_succ_of_lt this
                    | some y => exact Nat.succ_lt_succ this
            have lt : names.length < ts.length := by
              rw [← hn]
              refine key _ ts (fun e he => ?_) h
              cases e <;> first | rfl | skip
              rename_i id pos
              have : (X.env.kindOf id == some .local) = false := by
                unfold Env.kindOf
                rw [b.es]
                have he : decide (sc.names.lookup id = some .local) = false := he
                have he := of_decide_eq_false he
                cases hh : sc.names.lookup id with
                | none => rfl
                | some kk =>
                  rw [hh] at he
                  cases kk <;> first | rfl | exact absurd rfl he
              show (if (X.env.kindOf id == some .local && pos.line == _) = true then some id else none) = none
              rw [this]
              rfl
            simp only [bne_iff_ne, ne_eq]
            omega
          · rw [if_pos h]
  · rename_i hv
    cases v <;> first | rfl | exact absurd rfl (hv _ _ _)
  · cases h
/-- several plain statements' rules: by shape -/
theorem forA {tg : Tg} {it : Itx} {et ei : Expr} {lb : List Stmt} {pos : Pos} {body : Sxs} (G : Gd X T d ec) (hN : X.N = P.N) (b : Bd X sc Wx) (h0 : noSub tg = true) (h1 : trT P.N sc tg et = true) (h2 : trI P sc it (isTupT tg) ei = true)
    (hb : PSs X lb (rdSs X.K ec Wx (T.wd (T.call d) o0 f0) body)) : PS X (.For et ei lb [] pos) (rdS X.K ec Wx (T.wd (T.call d) o0 f0) (.forr tg it body)) := by
  have I := itA (o0 := o0) (f0 := f0) hP it _ _ X sc Wx h2 G hN b.es b.tk
  exact (ps_for b.ps G.calm (I.1 _ (trT_tup h1)) (tgt G.nd G.calm b.tgl tg _ (.inl h0) (by rw [hN]; exact h1)) hb (I.2 X.env)).weak fun _ _ _ q => for_red h0 q
theorem parA {i j : Nat} {es : Exs} {x y : Str} {px py pt pt2 pos : Pos} {kt k2 : Nat} {e1 e2 : Expr} (G : Gd X T d ec) (hN : X.N = P.N) (b : Bd X sc Wx) (hi : P.N[i]? = some x) (hj : P.N[j]? = some y) (hx : kindIs sc x .local = true) (hy : kindIs sc y .local = true)
    (hij : i ≠ j) (hl : (py.line == px.line) = true) (h : trEs P sc es [e1, e2] = true) (hf : [e1, e2].all (foldedForSure 8) = false) (hc : [e1, e2].all (constantsAlone 8) = false) :
    PS X (.Assign [.Tuple [.Name x px, .Name y py] kt pt] (.Tuple [e1, e2] k2 pt2) pos) (rdS X.K ec Wx (T.wd (T.call d) o0 f0) (.par [i, j] es)) := by
  have A := exsA (o0 := o0) (f0 := f0) hP es _ X sc Wx h G hN b.es b.tk
  have ns := noStar_all h
  simp only [List.all_cons, List.all_nil, Bool.and_true, Bool.and_eq_true] at ns
  have hi' : X.N[i]? = some x := by rw [hN]; exact hi
  have hj' : X.N[j]? = some y := by rw [hN]; exact hj
  have hxy : x ≠ y := fun e => by
    subst e
    obtain ⟨l1, e1⟩ := List.getElem?_eq_some_iff.mp hi'
    exact hij ((List.getElem?_inj l1 G.nd).mp (hi'.trans hj'.symm))
  exact (ps_par G.calm G.nd hi' hj' hij (by rw [b.es]; exact kindIs_some hx) (by rw [b.es]; exact kindIs_some hy) A.1 (sw_par b hx hy hxy hl ns.1 ns.2 hf hc)).weak fun _ _ _ q => par_red q
theorem appA {i : Nat} {x : Ex} {y : Str} {a : Expr} {px ap cp pos : Pos} (G : Gd X T d ec) (hN : X.N = P.N) (b : Bd X sc Wx) (hi : P.N[i]? = some y) (hv : vis sc y = true) (hk : okName y = true) (hs : noStar a = true) (hl : (ap.endLine == cp.line) = true) (h : trE P sc x a = true) :
    PS X (.Expr (.Call (.Attribute (.Name y px) "append" ap) [a] [] cp) pos) (rdS X.K ec Wx (T.wd (T.call d) o0 f0) (.app i x)) := by
  have A := exA (o0 := o0) (f0 := f0) hP x a X sc Wx h G hN b.es b.tk
  obtain ⟨k1, k2, _⟩ := okName_ok hk
  have v : PE X (.Name y px) (tVar i) := pe_var (by rw [hN]; exact hi) (by rw [b.es]; exact vis_ok hv) k1 k2
  exact (ps_expr (pe_bm F.plainAttrs_list F.slot_list_append F.type_list_append mt_append v (pa_cons A.pe pa_nil (star_cons hs)) rfl (by rw [star_cons hs]; rfl) hl (star_cons hs) rfl)).weak fun _ _ _ q => app_red q
theorem extA {i : Nat} {x : Ex} {y : Str} {a : Expr} {px ap cp pos : Pos} (G : Gd X T d ec) (hN : X.N = P.N) (b : Bd X sc Wx) (hi : P.N[i]? = some y) (hv : vis sc y = true) (hk : okName y = true) (hs : noStar a = true) (hl : (ap.endLine == cp.line) = true) (h : trE P sc x a = true) :
    PS X (.Expr (.Call (.Attribute (.Name y px) "extend" ap) [a] [] cp) pos) (rdS X.K ec Wx (T.wd (T.call d) o0 f0) (.ext i x)) := by
  have A := exA (o0 := o0) (f0 := f0) hP x a X sc Wx h G hN b.es b.tk
  obtain ⟨k1, k2, _⟩ := okName_ok hk
  have v : PE X (.Name y px) (tVar i) := pe_var (by rw [hN]; exact hi) (by rw [b.es]; exact vis_ok hv) k1 k2
  exact (ps_expr (pe_bm F.plainAttrs_list F.slot_list_extend F.type_list_extend mt_extend v (pa_cons A.pe pa_nil (star_cons hs)) rfl (by rw [star_cons hs]; rfl) hl (star_cons hs) rfl)).weak fun _ _ _ q => ext_red q
theorem stoA {i : Nat} {x ix : Ex} {y : Str} {k v : Expr} {px sp pos : Pos} (G : Gd X T d ec) (hN : X.N = P.N) (b : Bd X sc Wx) (hi : P.N[i]? = some y) (hv : vis sc y = true) (hk : okName y = true) (hs : noSlice k = true) (h : trE P sc ix k = true) (h2 : trE P sc x v = true) (hlc : isLc v = false) (hnt : isTupE v = false) :
    PS X (.Assign [.Subscript (.Name y px) k sp] v pos) (rdS X.K ec Wx (T.wd (T.call d) o0 f0) (.sto i ix x)) := by
  have A := exA (o0 := o0) (f0 := f0) hP x v X sc Wx h2 G hN b.es b.tk
  have B := exA (o0 := o0) (f0 := f0) hP ix k X sc Wx h G hN b.es b.tk
  obtain ⟨k1, k2, _⟩ := okName_ok hk
  have v0 : PE X (.Name y px) (tVar i) := pe_var (by rw [hN]; exact hi) (by rw [b.es]; exact vis_ok hv) k1 k2
  exact (ps_asg A.pe (pg_sub v0 B.pe set_list (by intro u; cases k <;> first | rfl | cases hs)) (by cases v <;> first | rfl | cases hlc) (by cases v <;> rfl)).weak fun _ _ _ q => sto_red q
theorem raiseA {k : Nat} {x m : Str} {np p2 cp pos : Pos} {j : Nat} (G : Gd X T d ec) (b : Bd X sc Wx) (hx : P.excs = T.excs) (hpx : P.plainX = T.plainX) (h1 : nmOf P.excs k x = true) (h2 : gl sc x = true) (h3 : okName x = true) (h4 : P.plainX k = true) :
    PS X (.Raise (some (.Call (.Name x np) [.Constant (.str m) j p2] [] cp)) none pos) (rdS X.K ec Wx (T.wd (T.call d) o0 f0) (.raise k)) := by
  obtain ⟨n, e1, rfl⟩ := nmOf_ok h1
  rw [hx] at e1
  obtain ⟨hm, ho⟩ := G.xmk k n e1
  have ho := ho (by rw [← hpx]; exact h4)
  obtain ⟨C, bmB, B, newId, initId, eC, F, q⟩ := ho.go
  have ht := ho.ht
  have hs := ho.hs
  have hk := ho.hk
  obtain ⟨k1, k2, _⟩ := okName_ok h3
  have R : Raises X (ec k) := raises_own hs ht
  rw [eC] at hm hk R
  exact (ps_raise G.calm b.tk (pmk_own F q hm hk R (show X.env.scope.names.lookup _ = _ by rw [b.es]; exact kindIs_some h2) k1)).weak fun D σ H q => by
    obtain ⟨c, f, r, q⟩ := q
    rw [evS] at q
    rw [← eC]
    exact q σ H c r (.refl _ _ _)
theorem tryA {k : Nat} {s : String} {x z : Str} {np rp zp hp pos : Pos} {j : Nat} {lb : List Stmt} {body : Sxs} (G : Gd X T d ec) (b : Bd X sc Wx) (hx : P.excs = T.excs) (h1 : nmOf P.excs k x = true) (h2 : gl sc x = true) (h3 : okName x = true) (hz : z = Str.ofString s)
    (hb : ∀ (W : WX) (pn : List (Addr × Obj)) (xe : Value → Shared → Prop), Bd (X.tr pn xe) sc W → PSs (X.tr pn xe) lb (rdSs X.K ec W (T.wd (T.call d) o0 f0) body)) :
    PS X (.Try lb [.ExceptHandler (some (.Name x np)) none [.Return (some (.Constant (.str z) j zp)) rp] hp] [] [] pos) (rdS X.K ec Wx (T.wd (T.call d) o0 f0) (.tryR body k s)) := by
  obtain ⟨n, e1, rfl⟩ := nmOf_ok h1
  rw [hx] at e1
  have hm := (G.xmk k n e1).1
  obtain ⟨k1, k2, _⟩ := okName_ok h3
  have hk : k < T.excs.length := (List.getElem?_eq_some_iff.mp e1).1
  have hn : Names X (Str.ofString n) (ec k) := ⟨show X.env.scope.names.lookup _ = _ by rw [b.es]; exact kindIs_some h2, k1, .inl hm⟩
  refine (ps_try_only b.st b.fr hn b.tk (fun W pn xe tk ps => hb W pn xe (b.tr tk ps)) (ts := fun _ _ _ => tRet (tC (.str z))) (fun a oe cls dd pn _ _ => pss_one (ps_ret pe_str))).weak fun D σ H q => ?_
  obtain ⟨c, f, r, q⟩ := q
  rw [evS] at q
  refine ⟨c, f, r, ?_⟩
  cases he : evSs (T.wd (T.call d) o0 f0) body f with
  | next g => rw [he] at q; exact q
  | brk g => rw [he] at q; exact q
  | cont g => rw [he] at q; exact q
  | ret v g => rw [he] at q; exact q
  | stuck => rw [he] at q; exact q
  | exc k' g =>
    rw [he] at q
    dsimp only at q
    intro σ' H' c' r' s'
    split at q
    · rename_i e
      subst e
      refine ⟨true, by rw [G.exm k' k' hk hk]; simp, fun _ a _ => ?_, nofun⟩
      exact q (.str z) σ' H' c' r' s' (by simp only [Rep]; rw [hz]) fun _ _ => nofun
    · rename_i ne
      split at q
      · rename_i hlt
        exact ⟨false, by rw [G.exm k' k hlt hk]; simp [ne], nofun, fun _ => q σ' H' c' r' s'⟩
      · exact q.elim
end
/-! #### shapes -/
section
variable {s : Stmt}
theorem dAsgN_ok {r} (h : dAsgN s = some r) : ∃ x px v p, s = .Assign [.Name x px] v p ∧ r = (x, px, v, p) := by
  unfold dAsgN at h
  split at h
  · exact ⟨_, _, _, _, rfl, (Option.some.inj h).symm⟩
  · cases h
theorem dAsgT_ok {r} (h : dAsgT s = some r) : ∃ t v p, s = .Assign [t] v p ∧ r = (t, v, p) := by
  unfold dAsgT at h
  split at h
  · exact ⟨_, _, _, rfl, (Option.some.inj h).symm⟩
  · cases h
theorem dPar2_ok {r} (h : dPar2 s = some r) : ∃ x px y py kt pt a b k2 pt2 p, s = .Assign [.Tuple [.Name x px, .Name y py] kt pt] (.Tuple [a, b] k2 pt2) p ∧ r = ((x, px), (y, py), (kt, pt), (a, b), (k2, pt2), p) := by
  unfold dPar2 at h
  split at h
  · exact ⟨_, _, _, _, _, _, _, _, _, _, _, rfl, (Option.some.inj h).symm⟩
  · cases h
theorem dAsgS_ok {r} (h : dAsgS s = some r) : ∃ x px k sp v p, s = .Assign [.Subscript (.Name x px) k sp] v p ∧ r = ((x, px), k, sp, v, p) := by
  unfold dAsgS at h
  split at h
  · exact ⟨_, _, _, _, _, _, rfl, (Option.some.inj h).symm⟩
  · cases h
theorem dAug_ok {r} (h : dAug s = some r) : ∃ x px o v p, s = .AugAssign (.Name x px) o v p ∧ r = ((x, px), o, v, p) := by
  unfold dAug at h
  split at h
  · exact ⟨_, _, _, _, _, rfl, (Option.some.inj h).symm⟩
  · cases h
theorem dMeth_ok {r} (h : dMeth s = some r) : ∃ x px m ap a cp p, s = .Expr (.Call (.Attribute (.Name x px) m ap) [a] [] cp) p ∧ r = ((x, px), m, ap, a, cp, p) := by
  unfold dMeth at h
  split at h
  · exact ⟨_, _, _, _, _, _, _, rfl, (Option.some.inj h).symm⟩
  · cases h
theorem dExp_ok {r} (h : dExp s = some r) : ∃ v p, s = .Expr v p ∧ r = (v, p) := by
  unfold dExp at h
  split at h
  · exact ⟨_, _, rfl, (Option.some.inj h).symm⟩
  · cases h
theorem dRet_ok {r} (h : dRet s = some r) : ∃ v p, s = .Return v p ∧ r = (v, p) := by
  unfold dRet at h
  split at h
  · exact ⟨_, _, rfl, (Option.some.inj h).symm⟩
  · cases h
theorem dIf_ok {r} (h : dIf s = some r) : ∃ c a b p, s = .If c a b p ∧ r = (c, a, b, p) := by
  unfold dIf at h
  split at h
  · exact ⟨_, _, _, _, rfl, (Option.some.inj h).symm⟩
  · cases h
theorem dFor_ok {r} (h : dFor s = some r) : ∃ t i b p, s = .For t i b [] p ∧ r = (t, i, b, p) := by
  unfold dFor at h
  split at h
  · exact ⟨_, _, _, _, rfl, (Option.some.inj h).symm⟩
  · cases h
theorem dWhl_ok {r} (h : dWhl s = some r) : ∃ c b p, s = .While c b [] p ∧ r = (c, b, p) := by
  unfold dWhl at h
  split at h
  · exact ⟨_, _, _, rfl, (Option.some.inj h).symm⟩
  · cases h
theorem dRaise_ok {r} (h : dRaise s = some r) : ∃ x np m j p2 cp p, s = .Raise (some (.Call (.Name x np) [.Constant (.str m) j p2] [] cp)) none p ∧ r = ((x, np), (m, j, p2), cp, p) := by
  unfold dRaise at h
  split at h
  · exact ⟨_, _, _, _, _, _, _, rfl, (Option.some.inj h).symm⟩
  · cases h
theorem dTry_ok {r} (h : dTry s = some r) : ∃ lb x np z j zp rp hp p, s = .Try lb [.ExceptHandler (some (.Name x np)) none [.Return (some (.Constant (.str z) j zp)) rp] hp] [] [] p ∧ r = (lb, (x, np), (z, j, zp), rp, hp, p) := by
  unfold dTry at h
  split at h
  · exact ⟨_, _, _, _, _, _, _, _, _, rfl, (Option.some.inj h).symm⟩
  · cases h
end
end Ev


set_option Elab.async false
set_option linter.all false
set_option maxRecDepth 100000
set_option maxHeartbeats 4000000
/-! Ev, part 17: every statement. -/
namespace Ev
open PySem L2 PyProof.Rows
open PySem.W (Frag)
section
variable {ec : Nat → Value} {T : Tab} {d : Nat} {P : TrP} {o0 f0 : Bool} {sc : Scope}
/-- what is shown of a statement, of statements -/
def M1 (ec : Nat → Value) (T : Tab) (d : Nat) (P : TrP) (o0 f0 : Bool) (sc : Scope) (s : Sx) : Prop := ∀ (e : Stmt) (X : Cx) (Wx : WX), trS P sc s e = true → Gd X T d ec → X.N = P.N → Bd X sc Wx → PS X e (rdS X.K ec Wx (T.wd (T.call d) o0 f0) s)
def M2 (ec : Nat → Value) (T : Tab) (d : Nat) (P : TrP) (o0 f0 : Bool) (sc : Scope) (s : Sxs) : Prop := ∀ (l : List Stmt) (X : Cx) (Wx : WX), trSs P sc s l = true → Gd X T d ec → X.N = P.N → Bd X sc Wx → PSs X l (rdSs X.K ec Wx (T.wd (T.call d) o0 f0) s)
variable (hP : P.fns = T.fns.map (·.name)) (hx : P.excs = T.excs) (hpx : P.plainX = T.plainX)
include hP hx hpx
theorem m_set {i : Nat} {x : Ex}  : M1 ec T d P o0 f0 sc (.set i x) := fun e X Wx h G hN b => by
  simp only [trS] at h
  cases hd : dAsgN e with
  | none => rw [hd] at h; cases h
  | some r =>
    obtain ⟨y, px, v, p, rfl, rfl⟩ := dAsgN_ok hd
    rw [hd] at h
    simp only [Bool.and_eq_true, decide_eq_true_eq, Bool.not_eq_true'] at h
    exact (asgName (o0 := o0) (f0 := f0) hP h.1.2 G hN b h.1.1.1 h.1.1.2 h.2).weak fun _ _ _ q => set_red q
theorem m_setO {i : Nat} {x : Ex}  : M1 ec T d P o0 f0 sc (.setO i x) := fun e X Wx h G hN b => by
  simp only [trS] at h
  cases hd : dAsgN e with
  | none => rw [hd] at h; cases h
  | some r =>
    obtain ⟨y, px, v, p, rfl, rfl⟩ := dAsgN_ok hd
    rw [hd] at h
    simp only [Bool.and_eq_true, decide_eq_true_eq, Bool.not_eq_true'] at h
    exact (asgName (o0 := o0) (f0 := f0) hP h.1.2 G hN b h.1.1.1 h.1.1.2 h.2).weak fun _ _ _ q => setO_red q
theorem m_setT {tg : Tg} {x : Ex}  : M1 ec T d P o0 f0 sc (.setT tg x) := fun e X Wx h G hN b => by
  simp only [trS] at h
  cases hd : dAsgT e with
  | none => rw [hd] at h; cases h
  | some r =>
    obtain ⟨t, v, p, rfl, rfl⟩ := dAsgT_ok hd
    rw [hd] at h
    simp only [Bool.and_eq_true, decide_eq_true_eq, Bool.not_eq_true'] at h
    obtain ⟨es, k, pt, rfl⟩ := trT_tup h.1.1.2 h.1.1.1
    have A := exA (o0 := o0) (f0 := f0) hP x _ X sc Wx h.1.2 G hN b.es b.tk
    exact (ps_asg A.pe (tgt G.nd G.calm b.tgl tg _ (.inr fun x hx => by rw [b.es]; exact vis_ok hx) (by rw [hN]; exact h.1.1.2)) (by cases v <;> rfl) (swNone_ok b h.2)).weak fun _ _ _ q => setT_red q
theorem m_par {is : List Nat} {es : Exs}  : M1 ec T d P o0 f0 sc (.par is es) := fun e X Wx h G hN b => by
  simp only [trS] at h
  cases hd : dPar2 e with
  | none => rw [hd] at h; split at h <;> simp_all
  | some r =>
    obtain ⟨x, px, y, py, kt, pt, a, b', k2, pt2, p, rfl, rfl⟩ := dPar2_ok hd
    rw [hd] at h
    match is, h with
    | [i, j], h =>
      simp only [Bool.and_eq_true, decide_eq_true_eq, Bool.not_eq_true', beq_eq_false_iff_ne] at h
      obtain ⟨⟨⟨⟨⟨⟨⟨⟨h1, h2⟩, h3⟩, h4⟩, h5⟩, h6⟩, h7⟩, h8⟩, h9⟩ := h
      exact parA hP G hN b h1 h2 h3 h4 h5 h6 h7 h8 h9
theorem m_aug {i : Nat} {o : Op} {x : Ex}  : M1 ec T d P o0 f0 sc (.aug i o x) := fun e X Wx h G hN b => by
  simp only [trS] at h
  cases hd : dAug e with
  | none => rw [hd] at h; cases h
  | some r =>
    obtain ⟨y, px, p, v, p2, rfl, rfl⟩ := dAug_ok hd
    rw [hd] at h
    simp only [Bool.and_eq_true, decide_eq_true_eq, Bool.not_eq_true'] at h
    have A := exA (o0 := o0) (f0 := f0) hP x _ X sc Wx h.1.2 G hN b.es b.tk
    have hi := h.1.1.1
    rw [← hN] at hi
    have ho := h.2
    unfold augIs at ho
    split at ho
    · exact (ps_aug G.nd hi (b.loc h.1.1.2) A.pe ip_add (b.fl _ h.1.1.2)).weak fun _ _ _ q => aug_red (fun x v y e => by
        unfold evAug at e
        split at e <;> first | contradiction | (cases e; exact ⟨_, _, rfl, rfl, rfl⟩)) q
    · exact (ps_aug G.nd hi (b.loc h.1.1.2) A.pe ip_sub (b.fl _ h.1.1.2)).weak fun _ _ _ q => aug_red (fun x v y e => by
        unfold evAug at e
        split at e <;> first | contradiction | (cases e; exact ⟨_, _, rfl, rfl, rfl⟩)) q
    · cases ho
theorem m_app {i : Nat} {x : Ex}  : M1 ec T d P o0 f0 sc (.app i x) := fun e X Wx h G hN b => by
  simp only [trS] at h
  cases hd : dMeth e with
  | none => rw [hd] at h; cases h
  | some r =>
    obtain ⟨y, px, m, ap, a, cp, p, rfl, rfl⟩ := dMeth_ok hd
    rw [hd] at h
    simp only [Bool.and_eq_true, decide_eq_true_eq, Bool.not_eq_true'] at h
    obtain ⟨⟨⟨⟨⟨⟨h1, h2⟩, h3⟩, h4⟩, h5⟩, h6⟩, h7⟩ := h
    subst h4
    exact appA hP G hN b h1 h2 h3 h5 h6 h7
theorem m_ext {i : Nat} {x : Ex}  : M1 ec T d P o0 f0 sc (.ext i x) := fun e X Wx h G hN b => by
  simp only [trS] at h
  cases hd : dMeth e with
  | none => rw [hd] at h; cases h
  | some r =>
    obtain ⟨y, px, m, ap, a, cp, p, rfl, rfl⟩ := dMeth_ok hd
    rw [hd] at h
    simp only [Bool.and_eq_true, decide_eq_true_eq, Bool.not_eq_true'] at h
    obtain ⟨⟨⟨⟨⟨⟨h1, h2⟩, h3⟩, h4⟩, h5⟩, h6⟩, h7⟩ := h
    subst h4
    exact extA hP G hN b h1 h2 h3 h5 h6 h7
theorem m_sto {i : Nat} {ix : Ex} {x : Ex}  : M1 ec T d P o0 f0 sc (.sto i ix x) := fun e X Wx h G hN b => by
  simp only [trS] at h
  cases hd : dAsgS e with
  | none => rw [hd] at h; cases h
  | some r =>
    obtain ⟨y, px, k, sp, v, p, rfl, rfl⟩ := dAsgS_ok hd
    rw [hd] at h
    simp only [Bool.and_eq_true, decide_eq_true_eq, Bool.not_eq_true'] at h
    obtain ⟨⟨⟨⟨⟨⟨⟨h1, h2⟩, h3⟩, h4⟩, h5⟩, h6⟩, h7⟩, h8⟩ := h
    exact stoA hP G hN b h1 h2 h3 h4 h5 h6 h7 h8
theorem m_sto2 {i : Nat} {ix : Ex} {j : Nat} {jx : Ex} {a : Ex} {c : Ex}  : M1 ec T d P o0 f0 sc (.sto2 i ix j jx a c) := fun e X Wx h G hN b => by
  simp only [trS] at h
  cases h
theorem m_exp {x : Ex}  : M1 ec T d P o0 f0 sc (.exp x) := fun e X Wx h G hN b => by
  simp only [trS] at h
  cases hd : dExp e with
  | none => rw [hd] at h; cases h
  | some r =>
    obtain ⟨v, p, rfl, rfl⟩ := dExp_ok hd
    rw [hd] at h
    simp only [Bool.and_eq_true, decide_eq_true_eq, Bool.not_eq_true'] at h
    have A := exA (o0 := o0) (f0 := f0) hP x _ X sc Wx h.1 G hN b.es b.tk
    exact (ps_expr A.pe (by cases v <;> first | rfl | cases h.2)).weak fun _ _ _ q => exp_red q
theorem m_ret {x : Ex}  : M1 ec T d P o0 f0 sc (.ret x) := fun e X Wx h G hN b => by
  simp only [trS] at h
  cases hd : dRet e with
  | none => rw [hd] at h; cases h
  | some r =>
    obtain ⟨v, p, rfl, rfl⟩ := dRet_ok hd
    rw [hd] at h
    cases v with
    | some v =>
      have A := exA (o0 := o0) (f0 := f0) hP x _ X sc Wx h G hN b.es b.tk
      by_cases hv : ∃ i, x = .var i
      · obtain ⟨i, rfl⟩ := hv
        exact (ps_ret A.pp).weak fun _ _ _ q => retV_red q
      · exact (ps_ret A.pe).weak fun _ _ _ q => ret_red (fun i e => hv ⟨i, e⟩) q
    | none =>
      cases x <;> first | cases h | skip
      exact ps_retN.weak fun _ _ _ q => retN_red q
theorem m_ite {c : Ex} {x : Sxs} {y : Sxs} (ihx : M2 ec T d P o0 f0 sc x) (ihy : M2 ec T d P o0 f0 sc y) : M1 ec T d P o0 f0 sc (.ite c x y) := fun e X Wx h G hN b => by
  simp only [trS] at h
  cases hd : dIf e with
  | none => rw [hd] at h; cases h
  | some r =>
    obtain ⟨ec, la, lb, p, rfl, rfl⟩ := dIf_ok hd
    rw [hd] at h
    simp only [Bool.and_eq_true, decide_eq_true_eq, Bool.not_eq_true'] at h
    have A := exA (o0 := o0) (f0 := f0) hP c _ X sc Wx h.1.1 G hN b.es b.tk
    exact (ps_if A.pt (ihx _ X Wx h.1.2 G hN b) (ihy _ X Wx h.2 G hN b)).weak fun _ _ _ q => ite_red q
theorem m_forr {tg : Tg} {it : Itx} {body : Sxs} (ihb : M2 ec T d P o0 f0 sc body) : M1 ec T d P o0 f0 sc (.forr tg it body) := fun e X Wx h G hN b => by
  simp only [trS] at h
  cases hd : dFor e with
  | none => rw [hd] at h; cases h
  | some r =>
    obtain ⟨et, ei, lb, p, rfl, rfl⟩ := dFor_ok hd
    rw [hd] at h
    simp only [Bool.and_eq_true, decide_eq_true_eq, Bool.not_eq_true'] at h
    exact forA hP G hN b h.1.1.1 h.1.1.2 h.1.2 (ihb _ X Wx h.2 G hN b)
theorem m_whl {c : Ex} {body : Sxs} (ihb : M2 ec T d P o0 f0 sc body) : M1 ec T d P o0 f0 sc (.whl c body) := fun e X Wx h G hN b => by
  simp only [trS] at h
  cases hd : dWhl e with
  | none => rw [hd] at h; cases h
  | some r =>
    obtain ⟨ec, lb, p, rfl, rfl⟩ := dWhl_ok hd
    rw [hd] at h
    simp only [Bool.and_eq_true, decide_eq_true_eq, Bool.not_eq_true'] at h
    have A := exA (o0 := o0) (f0 := f0) hP c _ X sc Wx h.1 G hN b.es b.tk
    exact (ps_while b.ps A.pt (ihb _ X Wx h.2 G hN b)).weak fun _ _ _ q => whl_red q
theorem m_brk   : M1 ec T d P o0 f0 sc (.brk ) := fun e X Wx h G hN b => by
  simp only [trS] at h
  cases e <;> first | cases h | skip
  exact ps_break.weak fun D σ H q => by
    obtain ⟨c, f, r, q⟩ := q
    rw [evS] at q
    exact q σ H c r (.refl _ _ _)
theorem m_cont   : M1 ec T d P o0 f0 sc (.cont ) := fun e X Wx h G hN b => by
  simp only [trS] at h
  cases e <;> first | cases h | skip
  exact ps_continue.weak fun D σ H q => by
    obtain ⟨c, f, r, q⟩ := q
    rw [evS] at q
    exact q σ H c r (.refl _ _ _)
theorem m_pass   : M1 ec T d P o0 f0 sc (.pass ) := fun e X Wx h G hN b => by
  simp only [trS] at h
  cases e <;> first | cases h | skip
  exact ps_pass.weak fun D σ H q => by
    obtain ⟨c, f, r, q⟩ := q
    rw [evS] at q
    exact q σ H c r (.refl _ _ _)
theorem m_raise {k : Nat}  : M1 ec T d P o0 f0 sc (.raise k) := fun e X Wx h G hN b => by
  simp only [trS] at h
  cases hd : dRaise e with
  | none => rw [hd] at h; cases h
  | some r =>
    obtain ⟨x, np, m, j, p2, cp, p, rfl, rfl⟩ := dRaise_ok hd
    rw [hd] at h
    simp only [Bool.and_eq_true, decide_eq_true_eq, Bool.not_eq_true'] at h
    exact raiseA (P := P) hP G b hx hpx h.1.1.1 h.1.1.2 h.1.2 h.2
theorem m_tryR {body : Sxs} {k : Nat} {s : String} (ihb : M2 ec T d P o0 f0 sc body) : M1 ec T d P o0 f0 sc (.tryR body k s) := fun e X Wx h G hN b => by
  simp only [trS] at h
  cases hd : dTry e with
  | none => rw [hd] at h; cases h
  | some r =>
    obtain ⟨lb, x, np, z, j, zp, rp, hp, p, rfl, rfl⟩ := dTry_ok hd
    rw [hd] at h
    simp only [Bool.and_eq_true, decide_eq_true_eq, Bool.not_eq_true'] at h
    exact tryA (P := P) hP G b hx h.1.1.1.2 h.1.1.2 h.1.2 h.2 fun W pn xe b2 => ihb _ (X.tr pn xe) W h.1.1.1.1 (G.tr pn xe) hN b2
theorem m_frz {i : Nat}  : M1 ec T d P o0 f0 sc (.frz i) := fun e X Wx h G hN b => by
  simp only [trS] at h
  cases h
theorem m_nil : M2 ec T d P o0 f0 sc .nil := fun l X Wx h G hN b => by
  cases l with
  | nil =>
    exact pss_nil.weak fun D σ H q => by
      obtain ⟨c, f, r, q⟩ := q
      rw [evSs] at q
      exact q σ H c r (.refl _ _ _)
  | cons _ _ => simp [trSs] at h
theorem m_cons {s : Sx} {ss : Sxs} (ih : M1 ec T d P o0 f0 sc s) (ihs : M2 ec T d P o0 f0 sc ss) : M2 ec T d P o0 f0 sc (.cons s ss) := fun l X Wx h G hN b => by
  simp only [trSs] at h
  cases hf : isFrz s with
  | true =>
    rw [hf, if_pos rfl] at h
    refine (ihs l X Wx h G hN b).weak fun D σ H q => ?_
    obtain ⟨i, rfl⟩ : ∃ i, s = .frz i := by cases s <;> first | exact ⟨_, rfl⟩ | cases hf
    exact frz_red q
  | false =>
    rw [hf, if_neg (by decide)] at h
    cases l with
    | nil => cases h
    | cons e l =>
      simp only [Bool.and_eq_true] at h
      exact (pss_cons (ih e X Wx h.1 G hN b) (ihs l X Wx h.2 G hN b)).weak fun D σ H q => seq_red q
theorem stsA (ss : Sxs) : M2 ec T d P o0 f0 sc ss :=
  Sxs.rec (motive_1 := fun s => M1 ec T d P o0 f0 sc s) (motive_2 := fun s => M2 ec T d P o0 f0 sc s)
    (fun _ _ => m_set hP hx hpx )
    (fun _ _ => m_setO hP hx hpx )
    (fun _ _ => m_setT hP hx hpx )
    (fun _ _ => m_par hP hx hpx )
    (fun _ _ _ => m_aug hP hx hpx )
    (fun _ _ => m_app hP hx hpx )
    (fun _ _ => m_ext hP hx hpx )
    (fun _ _ _ => m_sto hP hx hpx )
    (fun _ _ _ _ _ _ => m_sto2 hP hx hpx )
    (fun _ => m_exp hP hx hpx )
    (fun _ => m_ret hP hx hpx )
    (fun _ _ _ ihx ihy => m_ite hP hx hpx ihx ihy)
    (fun _ _ _ ihb => m_forr hP hx hpx ihb)
    (fun _ _ ihb => m_whl hP hx hpx ihb)
    (m_brk hP hx hpx)
    (m_cont hP hx hpx)
    (m_pass hP hx hpx)
    (fun _ => m_raise hP hx hpx )
    (fun _ _ _ ihb => m_tryR hP hx hpx ihb)
    (fun _ => m_frz hP hx hpx )
    (m_nil hP hx hpx)
    (fun _ _ ih ihs => m_cons hP hx hpx ih ihs) ss
end
end Ev


set_option Elab.async false
set_option linter.all false
set_option maxRecDepth 100000
set_option maxHeartbeats 4000000
/-! Ev, part 18: defs. -/
namespace Ev
open PySem L2 PyProof.Rows
open PySem.W (Frag)

def nmsOf (l : List String) : List Str := l.map Str.ofString
/-- the text check's ground for a def of the table -/
def Tab.trp (T : Tab) (fn : Fn) : TrP := ⟨nmsOf fn.names, T.fns.map (·.name), T.excs, T.plainX⟩
/-- a def of the table stands in the module -/
structure FnAt (K : Frag) (mg : Str → Option Value) (T : Tab) (fn : Fn) : Prop where
  go : ∃ (f : Addr) (name qual : Str) (params : Arguments) (body : List Stmt) (scope : Scope) (dV kV doc pm cdv ct oc : Value) (an od : Option Addr) (osl : Array (Option Value)) (ps : List Str),
    mg (Str.ofString fn.name) = some (.ref f) ∧ PySem.W.keepIn K (.ref f) = true ∧ K.lookup f = some ⟨oc, od, .func (PySem.W.fnOf name qual params body scope dV kV doc pm an cdv ct), osl⟩ ∧ PySem.W.codeIn K cdv qual = true ∧
    FnScope (nmsOf fn.names) ps scope ∧ Binds K (PySem.W.fnOf name qual params body scope dV kV doc pm an cdv ct) ps [] ∧ ps.length = fn.np ∧ trSs (T.trp fn) scope fn.body body = true
/-- the module, as it stands -/
structure Md (P : Program) (w : World) (K : Frag) (mg : Str → Option Value) (base : Heap) (T : Tab) (ec : Nat → Value) : Prop where
  blt : ∀ b ∈ ["len", "abs", "int", "sum", "all", "any", "min", "max", "sorted", "list", "tuple", "repr", "isinstance", "range", "zip", "enumerate", "bool", "str"], mg (Str.ofString b) = none
  glob : ∀ g v, T.glob g = some v → ∃ u w, mg (Str.ofString g) = some u ∧ RelV w u ∧ ∀ Z H, Rep K Z H v w
  fns : ∀ (g : Nat) fn, T.fns[g]? = some fn → FnAt K mg T fn
  xmk : ∀ (k : Nat) n, T.excs[k]? = some n → mg (Str.ofString n) = some (ec k) ∧ (T.plainX k = true → ExcOk K mg (ec k) n)
  exm : ∀ k k', k < T.excs.length → k' < T.excs.length → PySem.W.exmOne K (ec k) (ec k') = some (decide (k = k'))
section
variable {K : Frag} {Z : Addr → Prop} {H : Hp} {vs : List Dt} {ws : List V} {names : List String}
theorem start_get {N : List Str} {i : Nat} : (L2.start N ws)[i]? = if i < ws.length then (ws[i]?).map some else (if i < ws.length + (N.length - ws.length) then some none else none) := by
  unfold L2.start
  by_cases h : i < ws.length
  · rw [if_pos h, List.getElem?_append_left (by simpa using h), List.getElem?_map]
  · rw [if_neg h, List.getElem?_append_right (by simpa using Nat.le_of_not_lt h), List.length_map, List.getElem?_replicate]
    split <;> split <;> first | rfl | omega
theorem startF_none_get {n i : Nat} {v : Dt} (h : (startF n none vs)[i]? = some (.val v)) : vs[i]? = some v := by
  unfold startF at h
  simp only [List.nil_append] at h
  by_cases hi : i < vs.length
  · rw [List.getElem?_append_left (by simpa using hi), List.getElem?_map, Option.map_eq_some_iff] at h
    obtain ⟨a, h1, h2⟩ := h
    cases h2
    exact h1
  · rw [List.getElem?_append_right (by simpa using Nat.le_of_not_lt hi), List.getElem?_replicate] at h
    split at h <;> cases h
theorem startF_none_own {n i : Nat} {us : List Dt} (h : (startF n none vs)[i]? = some (.own us)) : False := by
  unfold startF at h
  simp only [List.nil_append] at h
  by_cases hi : i < vs.length
  · rw [List.getElem?_append_left (by simpa using hi), List.getElem?_map, Option.map_eq_some_iff] at h
    obtain ⟨a, h1, h2⟩ := h
    cases h2
  · rw [List.getElem?_append_right (by simpa using Nat.le_of_not_lt hi), List.getElem?_replicate] at h
    split at h <;> cases h
theorem startF_len {n : Nat} {own : Option (List Dt)} (h : vs.length + (if own.isSome then 1 else 0) ≤ n) : (startF n own vs).length = n := by
  unfold startF
  cases own with
  | none => simp at h ⊢; omega
  | some xs => simp at h ⊢; omega
theorem start_len {N : List Str} (h : ws.length ≤ N.length) : (L2.start N ws).length = N.length := by
  unfold L2.start
  simp
  omega
/-- at a def's entry -/
theorem R.start (l : Len H) (zt : ∀ a, Z a → ∃ xs, H a = some (.lst xs)) (rs : Reps K Z H vs ws) (hl : ws.length ≤ names.length) : R K ⟨Z, fun _ => none⟩ H (L2.start (nmsOf names) ws) (startF names.length none vs) := by
  have hv := rs.length
  refine ⟨?_, l, zt, fun i v e => ?_, fun i us e => (startF_none_own e).elim, fun i a => nofun, fun i j a => nofun, fun i a => nofun⟩
  · rw [start_len (by simpa [nmsOf] using hl), startF_len (by simp; omega)]
    simp [nmsOf]
  · have e := startF_none_get e
    obtain ⟨w, e1, e2⟩ := rs.get e
    have hi : i < ws.length := (List.getElem?_eq_some_iff.mp e1).1
    exact ⟨w, by rw [start_get, if_pos hi, e1]; rfl, Rep.keep (Kp.refl _ _) (fun a z => .inl (z.elim id fun ⟨i, e⟩ => by cases e)) _ _ e2⟩
theorem startF_some {n : Nat} {xs : List Dt} : startF n (some xs) vs = .own xs :: (startF (n - 1) none vs) := by
  unfold startF
  simp only [List.singleton_append, List.length_cons, List.length_map, List.nil_append, List.cons_append]
  congr 3
  omega
theorem R.startO {a : Addr} {wl : List V} {xs : List Dt} (l : Len H) (zt : ∀ a, Z a → ∃ xs, H a = some (.lst xs)) (ha : H a = some (.lst wl)) (nz : ¬ Z a) (rx : Reps K (fun b => Z b ∨ b = a) H xs wl) (rs : Reps K (fun b => Z b ∨ b = a) H vs ws) (hl : ws.length + 1 ≤ names.length) :
    R K ⟨Z, fun i => if i = 0 then some a else none⟩ H (L2.start (nmsOf names) (.ref a :: ws)) (startF names.length (some xs) vs) := by
  have hv := rs.length
  have zo : ∀ b, (Cf.mk Z fun i => if i = 0 then some a else none).zo b → Z b ∨ b = a := fun b z => z.imp id fun ⟨i, e⟩ => by
    have e : (if i = 0 then some a else none) = some b := e
    split at e
    · cases e; rfl
    · cases e
  have hz : ∀ b, (Cf.mk Z fun i => if i = 0 then some a else none).zo b → (Z b ∨ b = a) ∨ H b = none := fun b z => .inl (zo b z)
  rw [startF_some]
  refine ⟨?_, l, zt, fun i v e => ?_, fun i us e => ?_, fun i b e => ?_, fun i j b e1 e2 => ?_, fun i b e => ?_⟩
  · rw [start_len (by simpa [nmsOf] using hl), List.length_cons, startF_len (by simp; omega)]
    simp only [nmsOf, List.length_map]
    omega
  · cases i with
    | zero => simp at e
    | succ j =>
      have e := startF_none_get (show (startF (names.length - 1) none vs)[j]? = some (.val v) by simpa using e)
      obtain ⟨w, e1, e2⟩ := rs.get e
      have hj : j < ws.length := (List.getElem?_eq_some_iff.mp e1).1
      exact ⟨w, by rw [start_get, if_pos (by simpa using hj)]; simp [e1], Rep.keep (Kp.refl _ _) hz _ _ e2⟩
  · cases i with
    | zero =>
      simp at e
      subst e
      exact ⟨a, wl, rfl, by rw [start_get, if_pos (by simp)]; rfl, ha, Reps.keep (Kp.refl _ _) hz _ _ rx⟩
    | succ j => exact (startF_none_own (show (startF (names.length - 1) none vs)[j]? = some (.own us) by simpa using e)).elim
  · have e : (if i = 0 then some a else none) = some b := e
    split at e
    · rename_i h; subst h; exact ⟨xs, rfl⟩
    · cases e
  · have e1 : (if i = 0 then some a else none) = some b := e1
    have e2 : (if j = 0 then some a else none) = some b := e2
    split at e1 <;> split at e2
    · rename_i h1 h2; rw [h1, h2]
    · cases e2
    · cases e1
    · cases e1
  · have e : (if i = 0 then some a else none) = some b := e
    split at e
    · cases e; exact nz
    · cases e
end
section
variable {P : Program} {w : World} {K : Frag} {mg : Str → Option Value} {base : Heap} {T : Tab} {ec : Nat → Value}
theorem prom_len {d g : Nat} {fn : Fn} {ws : List V} {H : Hp} {Q : VK} {E : XK} (h : prom K ec T d g fn ws H Q E) : ws.length = fn.np := by
  obtain ⟨_, _, _, _, h, _⟩ := h
  exact h
theorem call_ok {d g : Nat} {fn : Fn} {own : Option (List Dt)} {vs : List Dt} (hf : T.fns[g]? = some fn) (h : T.call (d + 1) g own vs ≠ .stuck) :
    T.call (d + 1) g own vs = endF fn.io (evSs (T.wd (T.call d) fn.io fn.fr) fn.body (startF fn.names.length own vs)) ∧ own.isSome = fn.io ∧ vs.length + (if fn.io then 1 else 0) = fn.np ∧ fn.np ≤ fn.names.length := by
  rw [Tab.call, hf] at h ⊢
  dsimp only at h ⊢
  by_cases c : own.isSome = fn.io ∧ vs.length + (if fn.io then 1 else 0) = fn.np ∧ fn.np ≤ fn.names.length
  · rw [if_pos c]
    exact ⟨rfl, c⟩
  · rw [if_neg c] at h
    exact absurd rfl h
/-- what comes of a body is what was promised -/
theorem body_prom {d g : Nat} {fn : Fn} {ws : List V} {H : Hp} {Q : VK} {E : XK} (hf : T.fns[g]? = some fn) (h : prom K ec T (d + 1) g fn ws H Q E) :
    rdSs K ec (fun cls dd _ H => E cls dd H) (T.wd (T.call d) fn.io fn.fr) fn.body { nx := fun _ H' => Q .non H', rt := Q } (L2.start (nmsOf fn.names) ws) H := by
  obtain ⟨Z, vs, l, zt, hl, h⟩ := h
  rcases h with ⟨io, rs, h⟩ | ⟨io, a, wl, r, xs, rfl, ha, nz, rx, rs, h⟩
  · have ns : T.call (d + 1) g none vs ≠ .stuck := fun e => by rw [e] at h; exact h
    obtain ⟨e, c1, c2, c3⟩ := call_ok hf ns
    rw [io] at e c2
    rw [e] at h
    have hv := rs.length
    refine ⟨⟨Z, fun _ => none⟩, _, R.start l zt rs (by omega), ?_⟩
    rw [io]
    have sm : ∀ {c' : Cf} {H' : Hp} {W : Wd}, StepR W ⟨Z, fun _ => none⟩ H c' H' → Same H H' := fun s a o e => s.k.st a o e (.inl fun ⟨i, z⟩ => by cases z)
    cases hb : evSs (T.wd (T.call d) false fn.fr) fn.body (startF fn.names.length none vs) with
    | next f =>
      rw [hb] at h
      exact fun σ' H' c' r' s => h .non H' (sm s) r'.ln (by simp only [Rep]) fun _ _ => nofun
    | ret v f =>
      rw [hb] at h
      refine fun w σ' H' c' r' s rp nw => h w H' (sm s) r'.ln (Rep.keep (Kp.refl _ _) (fun a z => .inl (.inl (by rw [s.z]; exact z))) _ _ rp) fun hfr us e => ?_
      obtain ⟨p, ws, e1, e2, e3, e4, _⟩ := nw hfr us e
      refine ⟨p, ws, e1, e2.elim id fun ⟨i, z, _⟩ => (by cases z), e3, Reps.keep (Kp.refl _ _) (fun a z => .inl (z.imp (fun z => .inl (by rw [s.z]; exact z)) id)) _ _ e4⟩
    | exc k f =>
      rw [hb] at h
      exact fun σ' H' c' r' s => h H' (sm s) r'.ln
    | brk f => rw [hb] at h; exact h.elim
    | cont f => rw [hb] at h; exact h.elim
    | stuck => rw [hb] at h; exact h.elim
  · have ns : T.call (d + 1) g (some xs) vs ≠ .stuck := fun e => by rw [e] at h; exact h
    obtain ⟨e, c1, c2, c3⟩ := call_ok hf ns
    rw [io] at e c2
    rw [e] at h
    have hv := rs.length
    have hl : r.length + 1 = fn.np := hl
    refine ⟨⟨Z, fun i => if i = 0 then some a else none⟩, _, R.startO l zt ha nz rx rs (by omega), ?_⟩
    rw [io]
    have zo : ∀ {c' : Cf} {H' : Hp}, StepR (T.wd (T.call d) true fn.fr) ⟨Z, fun i => if i = 0 then some a else none⟩ H c' H' → c'.O 0 = some a ∧ (∀ b, Z b ∨ b = a → c'.zo b) ∧ Kp (· = a) H H' := fun s => by
      have h0 := s.o rfl
      refine ⟨h0, fun b z => ?_, s.k.weak fun b ⟨i, z⟩ => ?_⟩
      · rcases z with z | z
        · exact .inl (by rw [s.z]; exact z)
        · rw [z]; exact .inr ⟨0, h0⟩
      · have z : (if i = 0 then some a else none) = some b := z
        split at z
        · cases z; rfl
        · cases z
    cases hb : evSs (T.wd (T.call d) true fn.fr) fn.body (startF fn.names.length (some xs) vs) with
    | next f =>
      rw [hb] at h
      intro σ' H' c' r' s
      obtain ⟨z1, z2, z3⟩ := zo s
      cases hg : getO f 0 with
      | none => simp only [endF, if_true, hg] at h
      | some out =>
        simp only [endF, if_true, hg] at h
        obtain ⟨a', wl', q1, q2, q3, q4⟩ := r'.own 0 out (getO_some hg)
        rw [z1] at q1
        cases q1
        exact h .non H' wl' z3 r'.ln q3 (Reps.keep (Kp.refl _ _) (fun b z => .inl (z2 b z)) _ _ q4) (by simp only [Rep]) fun _ _ => nofun
    | ret v f =>
      rw [hb] at h
      intro w σ' H' c' r' s rp nw
      obtain ⟨z1, z2, z3⟩ := zo s
      cases hg : getO f 0 with
      | none => simp only [endF, if_true, hg] at h
      | some out =>
        simp only [endF, if_true, hg] at h
        obtain ⟨a', wl', q1, q2, q3, q4⟩ := r'.own 0 out (getO_some hg)
        rw [z1] at q1
        cases q1
        refine h w H' wl' z3 r'.ln q3 (Reps.keep (Kp.refl _ _) (fun b z => .inl (z2 b z)) _ _ q4) (Rep.keep (Kp.refl _ _) (fun b z => .inl (z2 b z)) _ _ rp) fun hfr us e => ?_
        obtain ⟨p, ws, e1, e2, e3, e4, r5⟩ := nw hfr us e
        obtain ⟨a', wl'', q1, _, q5, q6⟩ := r5.own 0 out (getO_some hg)
        have q1 : c'.O 0 = some a' := q1
        rw [z1] at q1
        cases q1
        rw [q3] at q5
        cases q5
        refine ⟨p, ws, e1, e2.elim id fun ⟨i, z, n⟩ => ?_, e3, Reps.keep (Kp.refl _ _) (fun b z => .inl (z.imp (z2 b) id)) _ _ e4, Reps.keep (Kp.refl _ _) (fun b z => .inl ?_) _ _ q6⟩
        · have z : (if i = 0 then some a else none) = some p := z
          rw [if_neg (n rfl)] at z
          cases z
        · rcases z with z | z
          · exact (z2 b z).imp .inl id
          · exact .inl (.inr z)
    | exc k f => rw [hb] at h; exact h.elim
    | brk f => rw [hb] at h; exact h.elim
    | cont f => rw [hb] at h; exact h.elim
    | stuck => rw [hb] at h; exact h.elim
/-- one def of the table, its callees' promises given -/
theorem fn_step (M : Md P w K mg base T ec) {d g : Nat} {fn : Fn} (hf : T.fns[g]? = some fn) (H : ∀ (g : Nat) fn, T.fns[g]? = some fn → ∃ (f : Addr) (fd : FuncData) (ps : List Str), mg (Str.ofString fn.name) = some (.ref f) ∧ PySem.W.keepIn K (.ref f) = true ∧ Binds K fd ps [] ∧ FnG P w K mg base d f fd ps (prom K ec T d g fn))
    {f : Addr} {name qual : Str} {params : Arguments} {body : List Stmt} {scope : Scope} {dV kV doc pm cdv ct oc : Value} {an od : Option Addr} {osl : Array (Option Value)} {ps : List Str}
    (h3 : K.lookup f = some ⟨oc, od, .func (PySem.W.fnOf name qual params body scope dV kV doc pm an cdv ct), osl⟩) (h4 : PySem.W.codeIn K cdv qual = true) (h5 : FnScope (nmsOf fn.names) ps scope) (h7 : ps.length = fn.np) (h8 : trSs (T.trp fn) scope fn.body body = true) :
    FnG P w K mg base (d + 1) f (PySem.W.fnOf name qual params body scope dV kV doc pm an cdv ct) ps (prom K ec T (d + 1) g fn) := by
  refine fnG_of h3 h4 h5 (fun vs H Q E h => by rw [prom_len h, h7]) fun A outer s H vs Q E hr hgd h => ⟨_, ?_, body_prom hf h⟩
  refine stsA (P := T.trp fn) rfl rfl rfl fn.body body (cxOf (L2.CX P w) P w K mg base (nmsOf fn.names) qual scope f cdv A outer s H E) _ h8 ?_ rfl ?_
  · exact ⟨rfl, h5.nd, hgd, hr, M.blt, M.glob, ‹_›, M.xmk, M.exm⟩
  · exact ⟨rfl, h5.kind, takes_of rfl rfl rfl rfl, passes_of rfl, rfl, rfl, fun _ _ => .inl rfl⟩
/-- every def of the table keeps its promise -/
theorem fns_ok (M : Md P w K mg base T ec) : ∀ (d : Nat) (g : Nat) fn, T.fns[g]? = some fn → ∃ (f : Addr) (fd : FuncData) (ps : List Str), mg (Str.ofString fn.name) = some (.ref f) ∧ PySem.W.keepIn K (.ref f) = true ∧ Binds K fd ps [] ∧ FnG P w K mg base d f fd ps (prom K ec T d g fn)
  | 0, g, fn, hf => by
    obtain ⟨f, name, qual, params, body, scope, dV, kV, doc, pm, cdv, ct, oc, an, od, osl, ps, h1, h2, h3, h4, h5, h6, h7, h8⟩ := (M.fns g fn hf).go
    refine ⟨f, _, ps, h1, h2, h6, ⟨fun vs H Q E h => by rw [prom_len h, h7], fun A outer s H args us vs Q E _ _ _ _ _ h => ?_⟩⟩
    obtain ⟨Z, vs, _, _, _, h⟩ := h
    rcases h with ⟨_, _, h⟩ | ⟨_, a, wl, r, xs, _, _, _, _, _, h⟩
    · exact h.elim
    · exact h.elim
  | d + 1, g, fn, hf => by
    obtain ⟨f, name, qual, params, body, scope, dV, kV, doc, pm, cdv, ct, oc, an, od, osl, ps, h1, h2, h3, h4, h5, h6, h7, h8⟩ := (M.fns g fn hf).go
    exact ⟨f, _, ps, h1, h2, h6, fn_step M hf (fns_ok M d) h3 h4 h5 h7 h8⟩
end
end Ev


set_option Elab.async false
set_option linter.all false
set_option maxRecDepth 100000
set_option maxHeartbeats 4000000
/-! Ev, part 19: from the module's top to the law. -/
namespace Ev
open PySem L2 PyProof.Rows
open PySem.W (Frag)

/-! ### the module's constants -/
mutual
def dtB (K : Frag) : Dt → Value → Bool
  | .none, .none => true
  | .bool b, .bool c => b == c
  | .int i, .int j _ => decide (i = j)
  | .str x, .str y _ => decide (x = y)
  | .tuple vs, .ref a => match K.lookup a with
    | some ⟨.type c, _, .seq its _, _⟩ => decide (c = "tuple") && decide (its.size ≤ sizeLine) && dtsB K vs its.toList
    | _ => false
  | _, _ => false
def dtsB (K : Frag) : List Dt → List Value → Bool
  | [], [] => true
  | v :: vs, u :: us => dtB K v u && dtsB K vs us
  | _, _ => false
end
mutual
theorem dtB_ok {K : Frag} : ∀ (d : Dt) (u : Value), dtB K d u = true → ∃ w, RelV w u ∧ ∀ Z H, Rep K Z H d w
  | .none, u, h => by
    cases u <;> first | exact ⟨.non, rfl, fun _ _ => by simp only [Rep]⟩ | cases h
  | .bool b, u, h => by
    cases u <;> first | cases h | skip
    rename_i c
    have e : b = c := eq_of_beq h
    subst e
    exact ⟨.bl b, rfl, fun _ _ => by simp only [Rep]⟩
  | .int i, u, h => by
    cases u <;> first | cases h | skip
    rename_i j t
    have e : i = j := of_decide_eq_true h
    subst e
    exact ⟨.int i, ⟨t, rfl⟩, fun _ _ => by simp only [Rep]⟩
  | .str x, u, h => by
    cases u <;> first | cases h | skip
    rename_i y t
    have e : x = y := of_decide_eq_true h
    subst e
    exact ⟨.str x, ⟨t, rfl⟩, fun _ _ => by simp only [Rep]⟩
  | .list _, u, h => by cases u <;> cases h
  | .dict _, u, h => by cases u <;> cases h
  | .tuple vs, u, h => by
    cases u <;> first | cases h | skip
    rename_i a
    simp only [dtB] at h
    split at h
    · rename_i c od its n sl q
      simp only [Bool.and_eq_true, decide_eq_true_eq] at h
      obtain ⟨ws, r, rs⟩ := dtsB_ok vs _ h.2
      refine ⟨.ref a, rfl, fun Z H => ?_⟩
      simp only [Rep]
      exact ⟨a, ws, rfl, .inr ⟨_, its, n, q, congrArg Value.type h.1.1, rfl, h.1.2, r⟩, rs Z H⟩
    · cases h
theorem dtsB_ok {K : Frag} : ∀ (ds : List Dt) (us : List Value), dtsB K ds us = true → ∃ ws, Vals ws us ∧ ∀ Z H, Reps K Z H ds ws
  | [], [], _ => ⟨[], .nil, fun _ _ => by simp only [Reps]⟩
  | [], _ :: _, h => by simp [dtsB] at h
  | _ :: _, [], h => by simp [dtsB] at h
  | d :: ds, u :: us, h => by
    simp only [dtsB, Bool.and_eq_true] at h
    obtain ⟨w, r, q⟩ := dtB_ok d u h.1
    obtain ⟨ws, rs, qs⟩ := dtsB_ok ds us h.2
    exact ⟨w :: ws, .cons r rs, fun Z H => by simp only [Reps]; exact ⟨w, ws, rfl, q Z H, qs Z H⟩⟩
end
def globB (globs : List (String × Dt)) (K : Frag) : Bool := globs.all fun p => match PySem.W.nsIn K mainGlobals (Str.ofString p.1) with
  | some (some u) => dtB K p.2 u
  | _ => false
/-! ### what the head tells -/
def bltN : List String := ["len", "abs", "int", "sum", "all", "any", "min", "max", "sorted", "list", "tuple", "repr", "isinstance", "range", "zip", "enumerate", "bool", "str"]
def exmL (es : List String) : List He.Fa := (List.range es.length).flatMap fun i => (List.range es.length).map fun j => He.Fa.exm (Str.ofString (es.getD i "")) (Str.ofString (es.getD j "")) (decide (i = j))
def faOf (T : Tab) : List He.Fa := bltN.map (fun b => .free (Str.ofString b)) ++ (T.fns.map (fun f => .glo (Str.ofString f.name)) ++ (T.excs.map (fun n => .glo (Str.ofString n)) ++ ((((List.range T.excs.length).filter fun k => T.plainX k).map fun k => .exc (Str.ofString (T.excs.getD k ""))) ++ exmL T.excs)))
def ecOf (T : Tab) (K : Frag) (k : Nat) : Value := .ref (He.ga K (Str.ofString (T.excs.getD k "")))
theorem lookup_in {α : Type} {g : String} {v : α} : ∀ {l : List (String × α)}, l.lookup g = some v → (g, v) ∈ l
  | [], h => by cases h
  | (a, b) :: r, h => by
    rw [List.lookup_cons] at h
    cases e : g == a with
    | true =>
      rw [e] at h
      cases h
      rw [eq_of_beq e]
      exact List.mem_cons_self
    | false =>
      rw [e] at h
      exact List.mem_cons_of_mem _ (lookup_in h)
section
variable {P : Program} {w : World} {K : Frag} {h : Heap} {mg : Str → Option Value} {base : Heap} {T : Tab} {globs : List (String × Dt)} {fnl : List He.DefD}
theorem FnAt.of {fn : Fn} {x qual : Str} {params : Arguments} {body : List Stmt} {scope : Scope} {f : Addr} {fd : FuncData} {ps : List Str} (F : FunD K x qual params body scope [] [] f fd) (hm : mg (Str.ofString fn.name) = some (.ref f))
    (S : FnScope (nmsOf fn.names) ps scope) (b : Binds K fd ps []) (hl : ps.length = fn.np) (ht : trSs (T.trp fn) scope fn.body body = true) : FnAt K mg T fn := by
  obtain ⟨oc, od, dV, kV, doc, pm, an, cdv, ct, osl, rfl, lk, hcd, hD, hK⟩ := F.ex
  exact ⟨f, x, qual, params, body, scope, dV, kV, doc, pm, cdv, ct, oc, an, od, osl, ps, hm, F.kp, lk, hcd, S, b, hl, ht⟩
theorem md_of (X : K.In h) (G : h.Ns mainGlobals mg) (c : He.SaysD (faOf T) fnl K) (hg : T.glob = fun g => globs.lookup g) (cg : globB globs K = true) (hf : ∀ (g : Nat) fn, T.fns[g]? = some fn → mg (Str.ofString fn.name) = some (.ref (He.ga K (Str.ofString fn.name))) → FnAt K mg T fn) : Md P w K mg base T (ecOf T K) := by
  refine ⟨fun b hb => He.free_ok X G (c.facts (f := .free (Str.ofString b)) ?_), fun g v e => ?_, fun g fn e => hf g fn e (He.glo_ok X G (c.facts (f := .glo (Str.ofString fn.name)) ?_)), fun k n e => ?_, fun k k' hk hk' => ?_⟩
  · exact List.mem_append_left _ (List.mem_map.mpr ⟨b, hb, rfl⟩)
  · rw [hg] at e
    have m := List.all_eq_true.mp cg _ (lookup_in e)
    dsimp only at m
    cases q : PySem.W.nsIn K mainGlobals (Str.ofString g) with
    | none => rw [q] at m; cases m
    | some r =>
      cases r with
      | none => rw [q] at m; cases m
      | some u =>
        rw [q] at m
        obtain ⟨w, r1, r2⟩ := dtB_ok v u m
        exact ⟨u, w, PySem.W.mg_of X G q, r1, r2⟩
  · exact List.mem_append_right _ (List.mem_append_left _ (List.mem_map.mpr ⟨fn, List.mem_of_getElem? e, rfl⟩))
  · have en : T.excs.getD k "" = n := by rw [List.getD_eq_getElem?_getD, e]; rfl
    have hm : mg (Str.ofString n) = some (ecOf T K k) := by
      unfold ecOf
      rw [en]
      exact He.glo_ok X G (c.facts (f := .glo (Str.ofString n)) (List.mem_append_right _ (List.mem_append_right _ (List.mem_append_left _ (List.mem_map.mpr ⟨n, List.mem_of_getElem? e, rfl⟩)))))
    refine ⟨hm, fun hp => ?_⟩
    have hk : k < T.excs.length := (List.getElem?_eq_some_iff.mp e).1
    obtain ⟨x1, x2, x3, x4⟩ := He.exc_ok (c.facts (f := .exc (Str.ofString (T.excs.getD k ""))) (List.mem_append_right _ (List.mem_append_right _ (List.mem_append_right _ (List.mem_append_left _ (List.mem_map.mpr ⟨k, List.mem_filter.mpr ⟨List.mem_range.mpr hk, hp⟩, rfl⟩))))))
    exact ⟨⟨_, _, _, _, _, rfl, PySem.F.excBase_ValueError, x1⟩, hm, x2, x3, x4⟩
  · exact He.exm_ok (c.facts (f := .exm (Str.ofString (T.excs.getD k "")) (Str.ofString (T.excs.getD k' "")) (decide (k = k'))) (List.mem_append_right _ (List.mem_append_right _ (List.mem_append_right _ (List.mem_append_right _ (List.mem_flatMap.mpr ⟨k, List.mem_range.mpr hk, List.mem_map.mpr ⟨k', List.mem_range.mpr hk', rfl⟩⟩))))))
end
end Ev


set_option Elab.async false
set_option linter.all false
set_option maxRecDepth 100000
set_option maxHeartbeats 4000000
/-! Ev, part 20: the law. -/
namespace Ev
open PySem L2 PyProof.Rows
open PySem.W (Frag)

/-- the heap at the law's call: the script alone, if it is no object of the module -/
def scrH (a : Addr) (o : Obj) (xs : List V) (tr : Bool) : Hp := fun b => if tr = true ∧ b = a then some (.frz o (.lst xs)) else none
theorem scrH_no {a b : Addr} {o : Obj} {xs : List V} {tr : Bool} (h : ¬ (tr = true ∧ b = a)) : scrH a o xs tr b = none := if_neg h
theorem scrH_is {a : Addr} {o : Obj} {xs : List V} : scrH a o xs true a = some (.frz o (.lst xs)) := if_pos ⟨rfl, rfl⟩
theorem scrH_cases {a : Addr} {o : Obj} {xs : List V} {tr : Bool} (b : Addr) : scrH a o xs tr b = none ∨ (tr = true ∧ b = a ∧ scrH a o xs tr b = some (.frz o (.lst xs))) := by
  by_cases h : tr = true ∧ b = a
  · exact .inr ⟨h.1, h.2, if_pos h⟩
  · exact .inl (if_neg h)
/-- the script's object -/
def scrO (vs : List Value) : Obj := { cls := .type "list", data := .seq vs.toArray }
section
variable {P : Program} {w : World} {K : Frag} {mg mb : Str → Option Value} {k : Nat} {fa a : Addr} {fd : FuncData} {ps : List Str} {sp : Sp} {s₁ : Shared} {vs : List Value} {ns : List Int}
/-- what the law's promise is asked for -/
abbrev AskSp (K : Frag) (sp : Sp) (a : Addr) (ns : List Int) : Prop := ∀ H : Hp, (∀ b, H b = none ∨ ∃ o, H b = some (.frz o (.lst (ns.map V.int)))) → ((∃ o, H a = some (.frz o (.lst (ns.map V.int)))) ∨ KL K a (ns.map V.int)) → sp [.ref a] H (fun v _ => v = .bl true) fun _ _ _ => False
theorem lawAt (tr : Bool) (ht : tr = true → K.lookup a = none) (KX : K.In s₁.heap) (hns : s₁.heap.Ns mainGlobals mg) (hb : s₁.heap.Ns builtinsNs mb) (hbb : ∀ x : Str, x ≠ "__name__" → mb x = bootBuiltins x)
    (hlim : s₁.heap.NoLimit) (hg : s₁.gens = #[]) (ha : s₁.heap.get? a = some (scrO vs)) (hi : IntsAre vs ns) (hl : ns.length ≤ sizeLine) (hr : Room k callerA)
    (F : ∀ base : Heap, K.In base → base.Ns mainGlobals mg → FnG P w K mg base k fa fd ps sp) (hp : ps.length = 1) (hbind : Binds K fd ps [])
    (hsp : sp [.ref a] (scrH a (scrO vs) (ns.map V.int) tr) (fun v _ => v = .bl true) fun _ _ _ => False) :
    codeAny (model P w) callerA (.call (.ref fa) ⟨[.ref a], []⟩) (fun r s' => r = .ok (.ret (.bool true)) ∧ OldK s₁.heap s'.heap ∧ s'.os = s₁.os ∧ AllBare s'.gens) s₁ := by
  obtain ⟨H, eH⟩ : ∃ H, H = scrH a (scrO vs) (ns.map V.int) tr := ⟨_, rfl⟩
  rw [← eH] at hsp
  have cs : ∀ b, H b = none ∨ (tr = true ∧ b = a ∧ H b = some (.frz (scrO vs) (.lst (ns.map V.int)))) := fun b => by rw [eH]; exact scrH_cases b
  have rv := vals_ints hi
  have stay : ∀ {b : Addr} {o : Obj}, s₁.heap.get? b = some o → (tr = true → b ≠ a) → (hidT s₁.heap H).get? b = some o := fun {b o} e n => hidT_get e ((cs b).elim id fun ⟨t, z, _⟩ => absurd z (n t))
  have ne : ∀ {b : Addr} {o : Obj} {es : Array DictEntry} {ep : Nat}, s₁.heap.get? b = some o → o.data = .dict es ep → tr = true → b ≠ a := fun {b o es ep} e d _ z => by
    subst z
    have q := e.symm.trans ha
    have d' : (scrO vs).data = .dict es ep := by rw [← Option.some.inj q]; exact d
    cases d'
  have nsK : ∀ {b : Addr} {m : Str → Option Value}, s₁.heap.Ns b m → (hidT s₁.heap H).Ns b m := fun {b m} ⟨o, es, ep, e, d, r⟩ => ⟨o, es, ep, stay e (ne e d), d, r⟩
  have inK : K.In (hidT s₁.heap H) := fun b o e => stay (KX b o e) fun t z => by
    subst z
    rw [ht t] at e
    cases e
  have hok : HOk P w H s₁.heap := fun b u z => by
    rcases cs b with e | ⟨_, e, q⟩
    · rw [e] at z; cases z
    · rw [q] at z
      cases z
      subst e
      exact ⟨ha, by rw [List.length_map]; exact hl, vs, _, rv, ha⟩
  have hM : Mod K mg (hidT s₁.heap H) := ⟨inK, nsK hns, ⟨mb, nsK hb, hbb⟩, let ⟨mc, h1, h2⟩ := hlim; ⟨mc, nsK h1, h2⟩⟩
  have e0 : Env0 P w K mg (hidT s₁.heap H) callerA [] s₁ H := ⟨rfl, hM, fun b o e => of_hidT e, Nat.le_of_eq (hidT_size _ _), trivial, fun b hb => absurd (show b ∈ ([] : List Addr) from hb) (by simp), hok, .of_eq hg⟩
  refine codeAny_mono ((F _ inK (nsK hns)).run callerA [] s₁ H ⟨[.ref a], []⟩ [.ref a] [.ref a] _ _ hr rfl e0 (hbind s₁ [.ref a] KX (by rw [hp]; rfl)) (.cons rfl .nil) hsp) fun r s' h => ?_
  match r, h with
  | .error e, h =>
    obtain ⟨_, _, _, _, _, _, _, _, _, _, _, _, f⟩ := h
    exact f.elim
  | .ok .next, h => exact False.elim h
  | .ok .brk, h => exact False.elim h
  | .ok .cont, h => exact False.elim h
  | .ok (.ret u), h =>
    obtain ⟨v, H', os, bare, un, hok', r', q⟩ := h
    have q : v = .bl true := q
    subst q
    obtain rfl : u = Value.bool true := r'
    refine ⟨rfl, OldK.of_keep fun b o e => ?_, os, bare⟩
    rcases cs b with z | ⟨_, _, z⟩
    · exact un.keep b o e z (fun z => absurd (show b ∈ ([] : List Addr) from z) (by simp)) (by simp)
    · have e1 := (hok b _ z).1
      have e2 := (hok' b _ (un.frzs b _ _ z)).1
      rw [e] at e1
      cases e1
      exact e2
theorem lawG (KX : K.In s₁.heap) (hns : s₁.heap.Ns mainGlobals mg) (hb : s₁.heap.Ns builtinsNs mb) (hbb : ∀ x : Str, x ≠ "__name__" → mb x = bootBuiltins x)
    (hlim : s₁.heap.NoLimit) (hg : s₁.gens = #[]) (ha : s₁.heap.get? a = some (scrO vs)) (hi : IntsAre vs ns) (hl : ns.length ≤ sizeLine) (hr : Room k callerA)
    (F : ∀ base : Heap, K.In base → base.Ns mainGlobals mg → FnG P w K mg base k fa fd ps sp) (hp : ps.length = 1) (hbind : Binds K fd ps []) (hsp : AskSp K sp a ns) :
    codeAny (model P w) callerA (.call (.ref fa) ⟨[.ref a], []⟩) (fun r s' => r = .ok (.ret (.bool true)) ∧ OldK s₁.heap s'.heap ∧ s'.os = s₁.os ∧ AllBare s'.gens) s₁ := by
  have all : ∀ tr b, scrH a (scrO vs) (ns.map V.int) tr b = none ∨ ∃ o, scrH a (scrO vs) (ns.map V.int) tr b = some (.frz o (.lst (ns.map V.int))) := fun tr b => (scrH_cases b).imp id fun ⟨_, _, q⟩ => ⟨_, q⟩
  cases hk : K.lookup a with
  | none => exact lawAt true (fun _ => hk) KX hns hb hbb hlim hg ha hi hl hr F hp hbind (hsp _ (all true) (.inl ⟨_, scrH_is⟩))
  | some o =>
    have e := (KX a o hk).symm.trans ha
    have e := Option.some.inj e
    subst e
    refine lawAt false (fun z => by cases z) KX hns hb hbb hlim hg ha hi hl hr F hp hbind (hsp _ (all false) (.inr ⟨vs, _, hk, ?_, vals_ints hi⟩))
    have := (vals_ints hi).length
    rw [List.length_map] at this
    omega
end
/-- the script as a datum -/
def scr (ns : List Int) : List Dt := ns.map PyData.int
theorem prom_law {K : Frag} {T : Tab} {ec : Nat → Value} {d g : Nat} {fn : Fn} (hf : T.fns[g]? = some fn) (io : fn.io = false) {a : Addr} {ns : List Int} (hl : ns.length ≤ 63) (hc : T.call (d + 1) g none [.list (scr ns)] = .ok (.bool true) []) : AskSp K (prom K ec T (d + 1) g fn) a ns := fun H hH ha => by
  have ns0 : T.call (d + 1) g none [.list (scr ns)] ≠ .stuck := fun e => by rw [hc] at e; cases e
  obtain ⟨_, _, c2, _⟩ := call_ok hf ns0
  rw [io] at c2
  refine ⟨fun _ => False, [.list (scr ns)], fun b xs e => ?_, fun _ z => z.elim, c2, .inl ⟨io, ?_, ?_⟩⟩
  · rcases hH b with z | ⟨o, z⟩
    · rw [z] at e
      rcases e with e | e | ⟨_, e⟩ <;> cases e
    · rw [z] at e
      rcases e with e | e | ⟨_, e⟩ <;> cases e
  · refine .one ?_
    simp only [Rep]
    refine ⟨a, ns.map V.int, rfl, ?_, .ofInts ns⟩
    rcases ha with ha | ha
    · exact .inr (.inl ⟨ha, by rw [List.length_map, sizeLine_eq]; omega⟩)
    · exact .inr (.inr ha)
  · rw [hc]
    exact fun w H' _ _ rp _ => by simpa only [Rep] using rp
section
open PySem.W
/-- the law from its def's promise -/
theorem walkG {l : PySem.W.OpenLaw} {k : Nat} {q : Program} {loose : List Str} {XP : (Str → Option Value) → Heap → Prop} {YP : World → Heap → Prop} {d : DefRec}
    (hn : l.most = some 63) (hdf : d.params.defaults = []) (hr : Room k callerA)
    (F : ∀ (w : World) (mg : Str → Option Value) (fa : Addr) (h : Heap), YP w h → h.Ns mainGlobals mg → mg d.name = some (.ref fa) →
      ∃ (K : Frag) (fd : FuncData) (ps : List Str) (sp : Sp), K.In h ∧ ps.length = 1 ∧ Binds K fd ps [] ∧ (∀ (a : Addr) (ns : List Int), ns.length ≤ 63 → AskSp K sp a ns) ∧
        ∀ base : Heap, K.In base → base.Ns mainGlobals mg → FnG l.prog w K mg base k fa fd ps sp) : WalkO q loose XP YP l.row.toRowW d [] (fun f vs => PySem.call f vs) :=
  Att.attach_call hn hdf fun w s₀ s₁ mg mb fa o pm cd doc a vs ns G Y ho hd hcd hmg hobj hints hlen hg => by
    obtain ⟨K, fd, ps, sp, KX, hp, hb, hsp, hF⟩ := F w mg fa _ Y G.T.g hmg
    exact lawG KX G.T.g G.T.b G.T.builtins G.T.nolimit hg hobj hints (Nat.le_trans hlen (by decide)) hr hF hp hb (hsp a ns hlen)
/-- the law from its table: the text is read, the evaluator says True -/
theorem law_end {l : PySem.W.OpenLaw} {q : Program} {loose : List Str} {XP : (Str → Option Value) → Heap → Prop} {d : DefRec} {n dep gl : Nat} {T : Tab} {globs : List (String × Dt)} {fnl : List He.DefD} {fn : Fn}
    (hn : l.most = some 63) (hdf : d.params.defaults = []) (hr : Room (dep + 1) callerA) (hg : T.glob = fun g => globs.lookup g) (hfn : T.fns[gl]? = some fn) (hio : fn.io = false) (hname : d.name = Str.ofString fn.name) (hnp : fn.np = 1)
    (hat : ∀ (K : Frag) (mg : Str → Option Value), He.SaysD (faOf T) fnl K → ∀ (g : Nat) fn, T.fns[g]? = some fn → mg (Str.ofString fn.name) = some (.ref (He.ga K (Str.ofString fn.name))) → FnAt K mg T fn)
    (hc : ∀ ns : List Int, ns.length ≤ 63 → T.call (dep + 1) gl none [.list (scr ns)] = .ok (.bool true) []) :
    WalkO q loose XP (He.hookX n (faOf T) fnl [] [] (globB globs)).says l.row.toRowW d [] (fun f vs => PySem.call f vs) := by
  refine walkG hn hdf hr fun w mg fa h Y G hmg => ?_
  obtain ⟨K, X, c⟩ := Y
  have cD : He.SaysD (faOf T) fnl K := congrArg (fun z : He.AlT => z.1) c.t
  have M : ∀ base, Md l.prog w K mg base T (ecOf T K) := fun base => md_of X G cD hg c.more (hat K mg cD)
  obtain ⟨f, name, qual, params, body, scope, dV, kV, doc, pm, cdv, ct, oc, an, od, osl, ps, h1, h2, h3, h4, h5, h6, h7, h8⟩ := ((M h).fns gl fn hfn).go
  rw [hname, h1] at hmg
  cases hmg
  exact ⟨K, _, ps, prom K (ecOf T K) T (dep + 1) gl fn, X, by rw [h7, hnp], h6, fun a ns hl => prom_law hfn hio hl (hc ns hl), fun base _ _ => fn_step (M base) hfn (fns_ok (M base) dep) h3 h4 h5 h7 h8⟩
end
end Ev


set_option Elab.async false
set_option linter.all false
set_option maxRecDepth 100000
set_option maxHeartbeats 4000000
/-! Ev, tools: what a call is worth, by simp. -/
namespace Ev
open PySem
theorem call_def {T : Tab} {d g : Nat} {fn : Fn} {own : Option (List Dt)} {vs : List Dt} (h : T.fns[g]? = some fn) (c : own.isSome = fn.io ∧ vs.length + (if fn.io then 1 else 0) = fn.np ∧ fn.np ≤ fn.names.length) :
    T.call (d + 1) g own vs = endF fn.io (evSs (T.wd (T.call d) fn.io fn.fr) fn.body (startF fn.names.length own vs)) := by
  rw [Tab.call, h]
  dsimp only
  rw [if_pos c]
@[simp] theorem wd_glob (T : Tab) (c o f) : (T.wd c o f).glob = T.glob := rfl
@[simp] theorem wd_call (T : Tab) (c o f) : (T.wd c o f).call = c := rfl
@[simp] theorem wd_io (T : Tab) (c o f) : (T.wd c o f).io = T.ioOf := rfl
@[simp] theorem wd_fr (T : Tab) (c o f) : (T.wd c o f).fr = T.frOf := rfl
@[simp] theorem wd_fuel (T : Tab) (c o f) : (T.wd c o f).fuel = T.fuel := rfl
@[simp] theorem wd_own0 (T : Tab) (c o f) : (T.wd c o f).own0 = o := rfl
@[simp] theorem wd_fresh0 (T : Tab) (c o f) : (T.wd c o f).fresh0 = f := rfl
@[simp] theorem bind_ok' {α β : Type} (a : α) (g : α → Res β) : (Res.ok a).bind g = g a := rfl
@[simp] theorem bind_exc' {α β : Type} (k : Nat) (f : Frm) (g : α → Res β) : (Res.exc k f : Res α).bind g = .exc k f := rfl
@[simp] theorem bind_stuck' {α β : Type} (g : α → Res β) : (Res.stuck : Res α).bind g = .stuck := rfl
@[simp] theorem ofO_some {α : Type} (a : α) (f : Frm) : Res.ofO (some a) f = .ok (a, f) := rfl
@[simp] theorem toFlw_ok (v : Dt) (f : Frm) (k : Dt → Frm → Flw) : toFlw (.ok (v, f)) k = k v f := rfl
@[simp] theorem toFlw_exc (n : Nat) (f : Frm) (k : Dt → Frm → Flw) : toFlw (.exc n f) k = .exc n f := rfl
@[simp] theorem noexc_ok' {α : Type} (a : α) : (Res.ok a).noexc = .ok a := rfl
section
variable (W : Wd) (f : Frm)
theorem e_var (i) : evE W (.var i) f = .ofO (getV f i) f := by rw [evE] <;> rfl
theorem e_non : evE W .non f = .ok (.none, f) := by rw [evE] <;> rfl
theorem e_bl (b) : evE W (.bl b) f = .ok (.bool b, f) := by rw [evE] <;> rfl
theorem e_int (i) : evE W (.int i) f = .ok (.int i, f) := by rw [evE] <;> rfl
theorem e_str (s) : evE W (.str s) f = .ok (.str (Str.ofString s), f) := by rw [evE] <;> rfl
theorem e_glob (g) : evE W (.glob g) f = .ofO (W.glob g) f := by rw [evE] <;> rfl
theorem e_op (o es) : evE W (.op o es) f = (evPs W es f).bind fun p => .ofO ((resolve p.2 p.1).bind fun vs => evOp o vs) p.2 := by rw [evE] <;> rfl
theorem e_chain (o o2 a b c) : evE W (.chain o o2 a b c) f = (evE W a f).bind fun x => (evE W b x.2).bind fun y => match evOp o [x.1, y.1], y.1 with
      | some (.bool true), .int _ => (evE W c y.2).bind fun z => .ofO (evOp o2 [y.1, z.1]) z.2
      | some (.bool false), _ => .ok (.bool false, y.2)
      | _, _ => .stuck := by rw [evE] <;> rfl
theorem e_and (a b) : evE W (.and a b) f = (evE W a f).bind fun x => match x.1 with
      | .bool true => evE W b x.2
      | .bool false => .ok (.bool false, x.2)
      | _ => .stuck := by rw [evE] <;> rfl
theorem e_or (a b) : evE W (.or a b) f = (evE W a f).bind fun x => match x.1 with
      | .bool true => .ok (.bool true, x.2)
      | .bool false => evE W b x.2
      | _ => .stuck := by rw [evE] <;> rfl
theorem e_one (a) : evE W (.one a) f = evE W a f := by rw [evE] <;> rfl
theorem e_not (a) : evE W (.not a) f = (evE W a f).bind fun x => match x.1 with
      | .bool b => .ok (.bool (!b), x.2)
      | _ => .stuck := by rw [evE] <;> rfl
theorem e_ife (c a b) : evE W (.ife c a b) f = (evE W c f).bind fun x => match x.1 with
      | .bool true => evE W a x.2
      | .bool false => evE W b x.2
      | _ => .stuck := by rw [evE] <;> rfl
theorem e_tup (es) : evE W (.tup es) f = (evPs W es f).bind fun p => .ofO ((plain p.1).map .tuple) p.2 := by rw [evE] <;> rfl
theorem e_lst (es) : evE W (.lst es) f = (evPs W es f).bind fun p => .ofO ((plain p.1).map .list) p.2 := by rw [evE] <;> rfl
theorem e_call (g es) : evE W (.call g es) f = (evPs W es f).bind fun p => match W.io g, p.1 with
      | true, .o i :: r => match getO p.2 i, plain r with
        | some xs, some vs => match W.call g (some xs) vs with
          | .ok v out => .ok (v, p.2.set i (.own out))
          | _ => .stuck
        | _, _ => .stuck
      | false, ps => match plain ps with
        | some vs => match W.call g none vs with
          | .ok v _ => .ok (v, p.2)
          | .exc k => .exc k p.2
          | .stuck => .stuck
        | none => .stuck
      | _, _ => .stuck := by rw [evE] <;> rfl
theorem s_set (i e) : evS W (.set i e) f = toFlw (evE W e f) fun v g => if canSet W g i then .next (g.set i (.val v)) else .stuck := by rw [evS] <;> rfl
theorem s_setO (i e) : evS W (.setO i e) f = if isFr W e then toFlw (evE W e f) fun v g => match v with
      | .list xs => if canOwn W g i then .next (g.set i (.own xs)) else .stuck
      | _ => .stuck
    else .stuck := by rw [evS] <;> rfl
theorem s_setT (tg e) : evS W (.setT tg e) f = toFlw (evE W e f) fun v g => asgF (asg tg v g) := by rw [evS] <;> rfl
theorem s_par (is es) : evS W (.par is es) f = match evPs W es f with
      | .ok (ps, g) => match plain ps with
        | some vs => asgF (setAll is vs g)
        | none => .stuck
      | .exc k g => .exc k g
      | .stuck => .stuck := by rw [evS] <;> rfl
theorem s_aug (i o e) : evS W (.aug i o e) f = match getV f i with
      | some x => toFlw (evE W e f) fun v g => match evAug o x v with
        | some y => if canSet W g i then .next (g.set i (.val y)) else .stuck
        | none => .stuck
      | none => .stuck := by rw [evS] <;> rfl
theorem s_app (i e) : evS W (.app i e) f = if isOwn f i then (toFlw (evE W e f) fun v g => match getO g i with
      | some xs => if xs.length < cap then .next (g.set i (.own (xs ++ [v]))) else .stuck
      | none => .stuck) else .stuck := by rw [evS] <;> rfl
theorem s_sto (i ix e) : evS W (.sto i ix e) f = toFlw (evE W e f) fun v g => if isOwn g i then (toFlw (evE W ix g) fun k h => match getO h i, k with
      | some xs, .int k => match setAt xs k v with
        | some ys => .next (h.set i (.own ys))
        | none => .stuck
      | _, _ => .stuck) else .stuck := by rw [evS] <;> rfl
theorem s_exp (e) : evS W (.exp e) f = toFlw (evE W e f) fun _ g => .next g := by rw [evS] <;> rfl
theorem s_ret (e) : evS W (.ret e) f = match ownVar e f with
      | some i => if canOwn W f i then (match getO f i with
        | some xs => .ret (.list xs) (f.set i .no)
        | none => .stuck) else .stuck
      | none => if W.fresh0 && !isFr W e then .stuck else toFlw (evE W e f) fun v g => .ret v g := by rw [evS] <;> rfl
theorem s_ite (c a b) : evS W (.ite c a b) f = toFlw (evE W c f) fun v g => match v with
      | .bool true => evSs W a g
      | .bool false => evSs W b g
      | _ => .stuck := by rw [evS] <;> rfl
theorem s_forr (tg it body) : evS W (.forr tg it body) f = match evI W it f with
      | .ok (xs, g) => forLoop tg (evSs W body) xs g
      | .exc k g => .exc k g
      | .stuck => .stuck := by rw [evS] <;> rfl
theorem s_whl (c body) : evS W (.whl c body) f = whlLoop (evE W c) (evSs W body) W.fuel f := by rw [evS] <;> rfl
theorem s_raise (k) : evS W (.raise k) f = .exc k f := by rw [evS] <;> rfl
theorem s_tryR (body k s) : evS W (.tryR body k s) f = match evSs W body f with
      | .exc k' g => if k' = k then .ret (.str (Str.ofString s)) g else if k' < W.nx then .exc k' g else .stuck
      | r => r := by rw [evS] <;> rfl
theorem s_frz (i) : evS W (.frz i) f = if canOwn W f i then (match getO f i with
      | some xs => .next (f.set i (.val (.list xs)))
      | none => .stuck) else .stuck := by rw [evS] <;> rfl
end
theorem ov_var (i : Nat) (f : Frm) : ownVar (.var i) f = if isOwn f i then some i else none := rfl
theorem ov_non  (f : Frm) : ownVar (.non ) f = none := rfl
theorem ov_bl (b) (f : Frm) : ownVar (.bl b) f = none := rfl
theorem ov_int (i) (f : Frm) : ownVar (.int i) f = none := rfl
theorem ov_str (s) (f : Frm) : ownVar (.str s) f = none := rfl
theorem ov_glob (g) (f : Frm) : ownVar (.glob g) f = none := rfl
theorem ov_op (o) (es) (f : Frm) : ownVar (.op o es) f = none := rfl
theorem ov_chain (o) (o2) (a) (b) (c) (f : Frm) : ownVar (.chain o o2 a b c) f = none := rfl
theorem ov_and (a) (b) (f : Frm) : ownVar (.and a b) f = none := rfl
theorem ov_or (a) (b) (f : Frm) : ownVar (.or a b) f = none := rfl
theorem ov_one (a) (f : Frm) : ownVar (.one a) f = none := rfl
theorem ov_not (a) (f : Frm) : ownVar (.not a) f = none := rfl
theorem ov_ife (c) (a) (b) (f : Frm) : ownVar (.ife c a b) f = none := rfl
theorem ov_tup (es) (f : Frm) : ownVar (.tup es) f = none := rfl
theorem ov_lst (es) (f : Frm) : ownVar (.lst es) f = none := rfl
theorem ov_call (g) (es) (f : Frm) : ownVar (.call g es) f = none := rfl
theorem ov_slice (a) (lo) (hi) (f : Frm) : ownVar (.slice a lo hi) f = none := rfl
theorem ov_comp (vs) (tg) (it) (cs) (e) (f : Frm) : ownVar (.comp vs tg it cs e) f = none := rfl
/-- a comprehension without tests, whose element leaves the frame -/
theorem comp_map {W : Wd} {v : Nat} {it : Itx} {elt : Ex} {f F : Frm} {items : List Dt} (h : Dt → Dt) (hi : evI W it f = .ok (items, F)) (hv : v < F.length) (ho : isOwn F v = false)
    (he : ∀ x ∈ items, evE W elt (F.set v (.val x)) = .ok (h x, F.set v (.val x))) : evE W (.comp [v] (.name v) it .nil elt) f = .ok (.list (items.map h), F) := by
  rw [evE, hi]
  have wf : ∀ s : Slot, wipeF (F.set v s) [v] = F.set v .no := fun s => by simp [wipeF, List.set_set]
  have w0 : wipeF F [v] = F.set v .no := by simp [wipeF]
  have as : ∀ x, asg (.name v) x (F.set v .no) = some (F.set v (.val x)) := fun x => by
    have : isOwn (F.set v .no) v = false := by simp [isOwn, hv]
    simp [asg, this, hv, List.set_set]
  simp only [bind_ok', List.any_cons, List.any_nil, Bool.or_false, ho, Bool.false_eq_true, if_false, w0]
  have loop : ∀ st : Dt → Frm → Res (Option Dt × Frm), (∀ x ∈ items, st x (F.set v .no) = .ok (some (h x), F.set v (.val x))) → ∀ xs : List Dt, (∀ x ∈ xs, x ∈ items) → compLoop [v] st xs (F.set v .no) = .ok (xs.map h, F.set v .no) := fun st hst xs hx => by
    induction xs with
    | nil => rfl
    | cons x xs ih =>
      rw [compLoop, hst x (hx x List.mem_cons_self)]
      simp only [bind_ok', wf, ih fun y hy => hx y (List.mem_cons_of_mem _ hy)]
      rfl
  rw [loop _ (fun x hx => by simp only [as, he x hx, noexc_ok', bind_ok']) items fun _ h => h]
  simp only [noexc_ok', bind_ok', backF]
  have : F[v]? = some F[v] := List.getElem?_eq_getElem hv
  rw [this]
  simp [List.set_set]
/-- a for over a range, step by step -/
theorem for_range {tg : Tg} {body : Frm → Flw} {g : Nat → Dt} {I : Nat → Frm → Prop} {n : Nat} (hs : ∀ i f, i < n → I i f → ∃ f1, asg tg (g i) f = some f1 ∧ ∃ f2, body f1 = .next f2 ∧ I (i + 1) f2) {f : Frm} (h0 : I 0 f) :
    ∃ f', forLoop tg body ((List.range n).map g) f = .next f' ∧ I n f' := by
  have key : ∀ (k j : Nat) (f : Frm), j + k = n → I j f → ∃ f', forLoop tg body ((List.range' j k).map g) f = .next f' ∧ I n f' := fun k => by
    induction k with
    | zero =>
      intro j f e h
      have : j = n := by omega
      subst this
      exact ⟨f, rfl, h⟩
    | succ k ih =>
      intro j f e h
      obtain ⟨f1, a1, f2, a2, a3⟩ := hs j f (by omega) h
      obtain ⟨f', b1, b2⟩ := ih (j + 1) f2 (by omega) a3
      refine ⟨f', ?_, b2⟩
      rw [List.range'_succ, List.map_cons, forLoop, a1]
      simp only [a2]
      exact b1
  rw [List.range_eq_range']
  exact key n 0 f (by omega) h0
/-- a for over a list's images -/
theorem for_list {tg : Tg} {body : Frm → Flw} {α : Type} {g : α → Dt} {I : List α → Frm → Prop} : ∀ {xs : List α} {f : Frm}, (∀ x xs f, I (x :: xs) f → ∃ f1, asg tg (g x) f = some f1 ∧ ∃ f2, body f1 = .next f2 ∧ I xs f2) → I xs f → ∃ f', forLoop tg body (xs.map g) f = .next f' ∧ I [] f'
  | [], f, _, h => ⟨f, rfl, h⟩
  | x :: xs, f, hs, h => by
    obtain ⟨f1, a1, f2, a2, a3⟩ := hs x xs f h
    obtain ⟨f', b1, b2⟩ := for_list (xs := xs) hs a3
    refine ⟨f', ?_, b2⟩
    rw [List.map_cons, forLoop, a1]
    simp only [a2]
    exact b1
end Ev


set_option Elab.async false
set_option linter.all false
set_option maxRecDepth 100000
set_option maxHeartbeats 4000000
/-! Ev, tools 2: frames read slot by slot. -/
namespace Ev
open PySem
def sval : Slot → Option Dt
  | .val v => some v
  | _ => none
def sown : Slot → Option (List Dt)
  | .own v => some v
  | _ => none
def isOwnS : Slot → Bool
  | .own _ => true
  | _ => false
@[simp] theorem sval_val (v : Dt) : sval (.val v) = some v := rfl
@[simp] theorem sval_own (v : List Dt) : sval (.own v) = none := rfl
@[simp] theorem sval_no : sval .no = none := rfl
@[simp] theorem sown_own (v : List Dt) : sown (.own v) = some v := rfl
@[simp] theorem isOwnS_val (v : Dt) : isOwnS (.val v) = false := rfl
@[simp] theorem isOwnS_own (v : List Dt) : isOwnS (.own v) = true := rfl
@[simp] theorem isOwnS_no : isOwnS .no = false := rfl
theorem gV0 (s : Slot) (f : Frm) : getV (s :: f) 0 = sval s := by cases s <;> rfl
theorem gVs (s : Slot) (f : Frm) (n : Nat) : getV (s :: f) (n + 1) = getV f n := rfl
theorem gO0 (s : Slot) (f : Frm) : getO (s :: f) 0 = sown s := by cases s <;> rfl
theorem gOs (s : Slot) (f : Frm) (n : Nat) : getO (s :: f) (n + 1) = getO f n := rfl
theorem iO0 (s : Slot) (f : Frm) : isOwn (s :: f) 0 = isOwnS s := by cases s <;> rfl
theorem iOs (s : Slot) (f : Frm) (n : Nat) : isOwn (s :: f) (n + 1) = isOwn f n := rfl
/-- slot i may take a value -/
def setOk (f : Frm) (i : Nat) : Bool := decide (i < f.length) && !isOwn f i
theorem sK0 (s : Slot) (f : Frm) : setOk (s :: f) 0 = !isOwnS s := by simp [setOk, iO0]
theorem sKs (s : Slot) (f : Frm) (n : Nat) : setOk (s :: f) (n + 1) = setOk f n := by simp [setOk, iOs]
theorem canSet_ok (W : Wd) (f : Frm) (i : Nat) : canSet W f i = setOk f i := rfl
def inFr (f : Frm) (i : Nat) : Bool := decide (i < f.length)
theorem inF0 (s : Slot) (f : Frm) : inFr (s :: f) 0 = true := by simp [inFr]
theorem inFs (s : Slot) (f : Frm) (n : Nat) : inFr (s :: f) (n + 1) = inFr f n := by simp [inFr]
theorem canOwn_ok (W : Wd) (f : Frm) (i : Nat) : canOwn W f i = (inFr f i && !(W.own0 && i == 0)) := rfl
theorem asg_name (i : Nat) (v : Dt) (f : Frm) : asg (.name i) v f = if setOk f i then some (f.set i (.val v)) else none := by
  rw [asg]
  unfold setOk
  cases isOwn f i with
  | true => simp
  | false =>
    by_cases h : i < f.length
    · simp [h]
    · simp [h]
theorem setAll_cons (i : Nat) (is : List Nat) (v : Dt) (vs : List Dt) (f : Frm) : setAll (i :: is) (v :: vs) f = if setOk f i then setAll is vs (f.set i (.val v)) else none := by
  rw [setAll]
  unfold setOk
  cases isOwn f i with
  | true => simp
  | false =>
    by_cases h : i < f.length
    · rw [if_neg, if_pos] <;> simp [h]
    · rw [if_pos, if_neg] <;> simp [h]; omega
theorem setAll_nil (f : Frm) : setAll [] [] f = some f := rfl
theorem asg_tup (ts : Tgs) (vs : List Dt) (f : Frm) : asg (.tup ts) (.tuple vs) f = asgs ts vs f := by rw [asg]
theorem asgs_nil (f : Frm) : asgs .nil [] f = some f := by rw [asgs]
theorem asgs_cons (t : Tg) (ts : Tgs) (v : Dt) (vs : List Dt) (f : Frm) : asgs (.cons t ts) (v :: vs) f = (asg t v f).bind fun g => asgs ts vs g := by rw [asgs]
theorem evEq_int (a b : Int) : evEq (.int a) (.int b) = some (decide (a = b)) := by
  show some (a == b) = _
  by_cases h : a = b
  · subst h; simp
  · simp [h]
end Ev


set_option Elab.async false
set_option linter.all false
set_option maxRecDepth 100000
set_option maxHeartbeats 4000000
/-! Ev, tools 3: comprehensions and loops over typed items. -/
namespace Ev
open PySem
/-- a comprehension over typed items, with one test or none -/
theorem comp_gen {α : Type} {W : Wd} {v : Nat} {it : Itx} {cs : Exs} {elt : Ex} {f F : Frm} {xs : List α} (g : α → Dt) (q : α → Bool) (h : α → Dt) (hi : evI W it f = .ok (xs.map g, F)) (hv : setOk F v = true)
    (he : ∀ x ∈ xs, (match cs with
      | .nil => (evE W elt (F.set v (.val (g x)))).noexc.bind fun y => .ok (some y.1, y.2)
      | .cons c _ => (evE W c (F.set v (.val (g x)))).noexc.bind fun b => match b.1 with
        | .bool true => (evE W elt b.2).noexc.bind fun y => Res.ok (some y.1, y.2)
        | .bool false => .ok (none, b.2)
        | _ => .stuck) = .ok (if q x then some (h x) else none, F.set v (.val (g x)))) :
    evE W (.comp [v] (.name v) it cs elt) f = .ok (.list ((xs.filter q).map h), F) := by
  simp only [setOk, Bool.and_eq_true, decide_eq_true_eq, Bool.not_eq_true'] at hv
  obtain ⟨hv, ho⟩ := hv
  rw [evE, hi]
  have wf : ∀ s : Slot, wipeF (F.set v s) [v] = F.set v .no := fun s => by simp [wipeF, List.set_set]
  have w0 : wipeF F [v] = F.set v .no := by simp [wipeF]
  have as : ∀ x, asg (.name v) x (F.set v .no) = some (F.set v (.val x)) := fun x => by
    have : isOwn (F.set v .no) v = false := by simp [isOwn, hv]
    simp [asg, this, hv, List.set_set]
  simp only [bind_ok', List.any_cons, List.any_nil, Bool.or_false, ho, Bool.false_eq_true, if_false, w0]
  have loop : ∀ st : Dt → Frm → Res (Option Dt × Frm), (∀ x ∈ xs, st (g x) (F.set v .no) = .ok (if q x then some (h x) else none, F.set v (.val (g x)))) → ∀ ys : List α, (∀ x ∈ ys, x ∈ xs) → compLoop [v] st (ys.map g) (F.set v .no) = .ok ((ys.filter q).map h, F.set v .no) := fun st hst ys hx => by
    induction ys with
    | nil => rfl
    | cons x ys ih =>
      rw [List.map_cons, compLoop, hst x (hx x List.mem_cons_self)]
      simp only [bind_ok', wf, ih fun y hy => hx y (List.mem_cons_of_mem _ hy)]
      cases hq : q x
      · simp [hq]
      · simp [hq]
  rw [loop _ (fun x hx => by simp only [as]; exact he x hx) xs fun _ h => h]
  simp only [noexc_ok', bind_ok', backF]
  have : F[v]? = some F[v] := List.getElem?_eq_getElem hv
  rw [this]
  simp [List.set_set]
theorem comp_t {α : Type} {W : Wd} {v : Nat} {it : Itx} {elt : Ex} {f F : Frm} {xs : List α} (g : α → Dt) (h : α → Dt) (hi : evI W it f = .ok (xs.map g, F)) (hv : setOk F v = true)
    (he : ∀ x ∈ xs, evE W elt (F.set v (.val (g x))) = .ok (h x, F.set v (.val (g x)))) : evE W (.comp [v] (.name v) it .nil elt) f = .ok (.list (xs.map h), F) := by
  rw [comp_gen g (fun _ => true) h hi hv fun x hx => by simp [he x hx]]
  rw [List.filter_eq_self.mpr fun _ _ => rfl]
theorem comp_tf {α : Type} {W : Wd} {v : Nat} {it : Itx} {c : Ex} {r : Exs} {elt : Ex} {f F : Frm} {xs : List α} (g : α → Dt) (q : α → Bool) (h : α → Dt) (hi : evI W it f = .ok (xs.map g, F)) (hv : setOk F v = true)
    (hc : ∀ x ∈ xs, evE W c (F.set v (.val (g x))) = .ok (.bool (q x), F.set v (.val (g x))))
    (he : ∀ x ∈ xs, q x = true → evE W elt (F.set v (.val (g x))) = .ok (h x, F.set v (.val (g x)))) : evE W (.comp [v] (.name v) it (.cons c r) elt) f = .ok (.list ((xs.filter q).map h), F) :=
  comp_gen g q h hi hv fun x hx => by
    simp only [hc x hx, noexc_ok', bind_ok']
    cases hq : q x
    · simp
    · simp [he x hx hq]
/-- a for over typed items; fr: the frame by what is carried and by the target's slot -/
theorem for_fold {α β : Type} {tg : Tg} {body : Frm → Flw} {g : α → Dt} {fr : β → Slot → Frm} {step : β → α → β} (I : β → Prop) {xs : List α} (ha : ∀ b s x, isOwnS s = false → asg tg (g x) (fr b s) = some (fr b (.val (g x))))
    (hb : ∀ b x, x ∈ xs → I b → body (fr b (.val (g x))) = .next (fr (step b x) (.val (g x))) ∧ I (step b x)) (b : β) (s : Slot) (hs : isOwnS s = false) (h0 : I b) :
    ∃ s', isOwnS s' = false ∧ forLoop tg body (xs.map g) (fr b s) = .next (fr (xs.foldl step b) s') ∧ I (xs.foldl step b) := by
  induction xs generalizing b s with
  | nil => exact ⟨s, hs, rfl, h0⟩
  | cons x xs ih =>
    obtain ⟨h1, h2⟩ := hb b x List.mem_cons_self h0
    obtain ⟨s', e1, e2, e3⟩ := ih (fun b y hy => hb b y (List.mem_cons_of_mem _ hy)) (step b x) (.val (g x)) rfl h2
    refine ⟨s', e1, ?_, e3⟩
    rw [List.map_cons, forLoop, ha b s x hs]
    simp only [h1]
    exact e2
/-- a for that looks for the first of its items and returns there -/
theorem for_find {α : Type} {tg : Tg} {body : Frm → Flw} {g : α → Dt} {fr : Slot → Frm} {p : α → Bool} {r : α → Dt} {xs : List α} (ha : ∀ s x, isOwnS s = false → asg tg (g x) (fr s) = some (fr (.val (g x))))
    (hn : ∀ x ∈ xs, p x = false → body (fr (.val (g x))) = .next (fr (.val (g x)))) (hr : ∀ x ∈ xs, p x = true → ∃ f, body (fr (.val (g x))) = .ret (r x) f) (s : Slot) (hs : isOwnS s = false) :
    (∀ x, xs.find? p = some x → ∃ f, forLoop tg body (xs.map g) (fr s) = .ret (r x) f) ∧ (xs.find? p = none → ∃ s', isOwnS s' = false ∧ forLoop tg body (xs.map g) (fr s) = .next (fr s')) := by
  induction xs generalizing s with
  | nil => exact ⟨fun _ h => (nomatch h), fun _ => ⟨s, hs, rfl⟩⟩
  | cons x xs ih =>
    have ih := ih (fun y hy => hn y (List.mem_cons_of_mem _ hy)) (fun y hy => hr y (List.mem_cons_of_mem _ hy)) (.val (g x)) rfl
    cases hp : p x
    · have e := hn x List.mem_cons_self hp
      have st : forLoop tg body ((x :: xs).map g) (fr s) = forLoop tg body (xs.map g) (fr (.val (g x))) := by
        rw [List.map_cons, forLoop, ha s x hs]
        simp only [e]
      rw [List.find?_cons, hp, st]
      exact ih
    · obtain ⟨f, e⟩ := hr x List.mem_cons_self hp
      rw [List.find?_cons, hp]
      refine ⟨fun y hy => ?_, nofun⟩
      cases hy
      refine ⟨f, ?_⟩
      rw [List.map_cons, forLoop, ha s x hs]
      simp only [e]
/-- lists' places -/
theorem ixOf_n {n k : Nat} (h : k < n) : ixOf n (k : Int) = some k := by
  unfold ixOf
  rw [if_pos (by omega), if_pos (by omega)]
  simp
theorem ixOf_last {n : Nat} (h : 0 < n) : ixOf n (-1) = some (n - 1) := by
  unfold ixOf
  rw [if_neg (by omega), if_pos (by omega)]
  congr 1
  omega
theorem idx_n {L : List Dt} {k : Nat} {v : Dt} (h : L[k]? = some v) : evIdx (.list L) (.int (k : Int)) = some v := by
  have : k < L.length := (List.getElem?_eq_some_iff.mp h).1
  show (ixOf L.length (k : Int)).bind _ = _
  rw [ixOf_n this]
  exact h
theorem idx_last {L : List Dt} {v : Dt} (h : L[L.length - 1]? = some v) : evIdx (.list L) (.int (-1)) = some v := by
  have : L.length - 1 < L.length := (List.getElem?_eq_some_iff.mp h).1
  show (ixOf L.length (-1)).bind _ = _
  rw [ixOf_last (by omega)]
  exact h
theorem idx_map {α : Type} {g : α → Dt} {xs : List α} {k : Nat} {x : α} (h : xs[k]? = some x) : evIdx (.list (xs.map g)) (.int (k : Int)) = some (g x) := idx_n (by rw [List.getElem?_map, h]; rfl)
theorem idx_last_map {α : Type} {g : α → Dt} {xs : List α} {x : α} (h : xs[xs.length - 1]? = some x) : evIdx (.list (xs.map g)) (.int (-1)) = some (g x) := idx_last (by rw [List.length_map, List.getElem?_map, h]; rfl)
theorem len_map {α : Type} {g : α → Dt} {xs : List α} : evLen (.list (xs.map g)) = some (.int (xs.length : Int)) := by
  show some (PyData.int ((xs.map g).length : Int)) = _
  rw [List.length_map]
/-- ranges -/
theorem rng_0 {k : Nat} (h : k ≤ 16777216) : rngOk 0 (k : Int) = some ((List.range k).map fun (i : Nat) => PyData.int (i : Int)) := by
  unfold rngOk
  rw [show inBig 0 = true from rfl, inBig_nat (show k ≤ _ by omega), Nat.ble_eq_true_of_le (show ((k : Int) - 0).toNat ≤ 16777216 by omega)]
  unfold rangeL
  rw [show ((k : Int) - 0).toNat = k by omega]
  simp
theorem rng_2 {m n : Nat} (h : n ≤ 16777216) (hm : m ≤ 16777216) : rngOk (m : Int) (n : Int) = some ((List.range' m (n - m)).map fun (i : Nat) => PyData.int (i : Int)) := by
  unfold rngOk
  rw [inBig_nat (show m ≤ _ by omega), inBig_nat (show n ≤ _ by omega), Nat.ble_eq_true_of_le (show ((n : Int) - (m : Int)).toNat ≤ 16777216 by omega)]
  unfold rangeL
  rw [show ((n : Int) - (m : Int)).toNat = n - m by omega, List.range'_eq_map_range, List.map_map]
  simp
end Ev
namespace Ev
open PySem
theorem e_slice (W : Wd) (f : Frm) (a lo hi) : evE W (.slice a lo hi) f = (match ownVar a f with
      | some i => Res.ok (Pv.o i, f)
      | none => (evE W a f).bind fun x => Res.ok (Pv.v x.1, x.2)).bind fun p => (evO W lo p.2).bind fun l => (evO W hi l.2).bind fun h =>
      .ofO ((resolve h.2 [p.1]).bind fun xs => xs.head?.bind fun x => evSlice x l.1 h.1) h.2 := by rw [evE] <;> rfl
theorem clip_some (n d s : Nat) : clipIx n d (some (s : Int)) = min s n := by
  show (if (s : Int) < 0 then ((s : Int) + (n : Int)).toNat else min ((s : Int)).toNat n) = _
  rw [if_neg (by omega), show ((s : Int)).toNat = s by omega]
theorem clip_none (n d : Nat) : clipIx n d none = d := rfl
theorem cut_from {α : Type} (xs : List α) (s : Nat) : cutL xs (some (s : Int)) none = xs.drop s := by
  unfold cutL
  rw [clip_some, clip_none]
  by_cases h : s ≤ xs.length
  · rw [Nat.min_eq_left h, List.take_of_length_le (by simp)]
  · rw [Nat.min_eq_right (by omega), List.drop_of_length_le (Nat.le_refl _), List.drop_of_length_le (by omega)]
    simp
theorem cut_to {α : Type} (xs : List α) (s : Nat) : cutL xs none (some (s : Int)) = xs.take s := by
  unfold cutL
  rw [clip_some, clip_none, List.drop_zero, Nat.sub_zero]
  by_cases h : s ≤ xs.length
  · rw [Nat.min_eq_left h]
  · rw [Nat.min_eq_right (by omega), List.take_of_length_le (Nat.le_refl _), List.take_of_length_le (by omega)]
theorem slice_from {α : Type} {g : α → Dt} (xs : List α) (s : Nat) : evSlice (.list (xs.map g)) (some (s : Int)) none = some (.list ((xs.drop s).map g)) := by
  show some (PyData.list (cutL (xs.map g) (some (s : Int)) none)) = _
  rw [cut_from, List.map_drop]
theorem slice_to {α : Type} {g : α → Dt} (xs : List α) (s : Nat) : evSlice (.list (xs.map g)) none (some (s : Int)) = some (.list ((xs.take s).map g)) := by
  show some (PyData.list (cutL (xs.map g) none (some (s : Int)))) = _
  rw [cut_to, List.map_take]
theorem drop_range (n s : Nat) : (List.range n).drop s = List.range' s (n - s) := by
  rw [List.range_eq_range', List.drop_range']
  simp
theorem take_range (n s : Nat) : (List.range n).take s = List.range (min s n) := by
  rw [List.take_range]
end Ev
namespace Ev
open PySem
theorem canAll : ∀ {L : List Dt}, (∀ x ∈ L, PyData.canLay0 x = true) → PyData.canLayAll0 L = true
  | [], _ => rfl
  | x :: xs, h => by rw [PyData.canLayAll0, h x List.mem_cons_self, canAll fun y hy => h y (List.mem_cons_of_mem _ hy)]; rfl
theorem depAll {k : Nat} : ∀ {L : List Dt}, (∀ x ∈ L, PyData.depth x ≤ k) → PyData.depthAll L ≤ k
  | [], _ => Nat.zero_le _
  | x :: xs, h => by
    rw [PyData.depthAll]
    exact Nat.max_le.mpr ⟨h x List.mem_cons_self, depAll fun y hy => h y (List.mem_cons_of_mem _ hy)⟩
theorem shp_list {L : List Dt} {k : Nat} (hc : ∀ x ∈ L, PyData.canLay0 x = true) (hd : ∀ x ∈ L, PyData.depth x ≤ k) (hk : k < 64) : shp (.list L) = true := by
  unfold shp SeqAt.shaped
  rw [PyData.canLay0, PyData.depth, canAll hc]
  have := depAll hd
  simp only [Bool.true_and, decide_eq_true_eq]
  omega
theorem shp_tuple {L : List Dt} {k : Nat} (hc : ∀ x ∈ L, PyData.canLay0 x = true) (hd : ∀ x ∈ L, PyData.depth x ≤ k) (hk : k < 64) : shp (.tuple L) = true := by
  unfold shp SeqAt.shaped
  rw [PyData.canLay0, PyData.depth, canAll hc]
  have := depAll hd
  simp only [Bool.true_and, decide_eq_true_eq]
  omega
theorem shp_ints {α : Type} (f : α → Int) (L : List α) : shp (.list (L.map fun x => PyData.int (f x))) = true := by
  refine shp_list (k := 0) (fun x hx => ?_) (fun x hx => ?_) (by decide)
  · obtain ⟨y, _, rfl⟩ := List.mem_map.mp hx
    rfl
  · obtain ⟨y, _, rfl⟩ := List.mem_map.mp hx
    exact Nat.le_refl _
theorem eq_refl {d : Dt} (h : shp d = true) : PyData.eqv d d = true := by
  unfold shp SeqAt.shaped at h
  rw [Bool.and_eq_true] at h
  exact SeqAt.eqv_refl d h.1
theorem evEq_list {a b : List Dt} (ha : shp (.list a) = true) (hb : shp (.list b) = true) : evEq (.list a) (.list b) = some (PyData.eqv (.list a) (.list b)) := by
  show (if shp (.list a) && shp (.list b) then some (PyData.eqv (.list a) (.list b)) else none) = _
  rw [ha, hb]
  rfl
theorem evEq_tuple {a b : List Dt} (ha : shp (.tuple a) = true) (hb : shp (.tuple b) = true) : evEq (.tuple a) (.tuple b) = some (PyData.eqv (.tuple a) (.tuple b)) := by
  show (if shp (.tuple a) && shp (.tuple b) then some (PyData.eqv (.tuple a) (.tuple b)) else none) = _
  rw [ha, hb]
  rfl
theorem eqL_self {a : List Dt} (ha : shp (.list a) = true) : evEq (.list a) (.list a) = some true := by rw [evEq_list ha ha, eq_refl ha]
theorem eqT_self {a : List Dt} (ha : shp (.tuple a) = true) : evEq (.tuple a) (.tuple a) = some true := by rw [evEq_tuple ha ha, eq_refl ha]
theorem eqL_nil {a : List Dt} (ha : shp (.list a) = true) : evEq (.list a) (.list []) = some a.isEmpty := by
  rw [evEq_list ha rfl]
  congr 1
  cases a with
  | nil => simp [PyData.eqv, PyData.eqvAll]
  | cons x xs => simp [PyData.eqv, PyData.eqvAll]
theorem evEq_str (s : Str) : evEq (.str s) (.str s) = some true := by simp [evEq]
theorem in_nats (m : Nat) (L : List Nat) : evIn (.int (m : Int)) (.list (L.map fun (k : Nat) => PyData.int (k : Int))) = some (decide (m ∈ L)) := by
  have s := shp_ints (fun (k : Nat) => (k : Int)) L
  show (if shp (.int (m : Int)) && shp (.list (L.map fun (k : Nat) => PyData.int (k : Int))) then some ((L.map fun (k : Nat) => PyData.int (k : Int)).any fun z => PyData.eqv z (.int (m : Int))) else none) = _
  rw [s, show shp (.int (m : Int)) = true from rfl]
  simp only [Bool.and_self, if_true]
  congr 1
  rw [Bool.eq_iff_iff, List.any_eq_true, decide_eq_true_eq]
  constructor
  · rintro ⟨z, hz, e⟩
    obtain ⟨k, hk, rfl⟩ := List.mem_map.mp hz
    simp only [PyData.eqv, beq_iff_eq] at e
    have : k = m := by omega
    rw [← this]; exact hk
  · intro h
    exact ⟨_, List.mem_map.mpr ⟨m, h, rfl⟩, by simp [PyData.eqv]⟩
theorem bools_map {α : Type} (p : α → Bool) : ∀ L : List α, bools? (L.map fun x => PyData.bool (p x)) = some (L.map p)
  | [] => rfl
  | x :: xs => by rw [List.map_cons, bools?, bools_map p xs]; rfl
theorem ints_map {α : Type} (p : α → Int) : ∀ L : List α, ints? (L.map fun x => PyData.int (p x)) = some (L.map p)
  | [] => rfl
  | x :: xs => by rw [List.map_cons, ints?, ints_map p xs]; rfl
theorem any_map {α : Type} (p : α → Bool) (L : List α) : evBools (fun bs => bs.any id) (.list (L.map fun x => PyData.bool (p x))) = some (.bool (L.any p)) := by
  show (bools? _).map _ = _
  rw [bools_map]
  simp [List.any_map, Function.comp_def]
theorem all_map {α : Type} (p : α → Bool) (L : List α) : evBools (fun bs => bs.all id) (.list (L.map fun x => PyData.bool (p x))) = some (.bool (L.all p)) := by
  show (bools? _).map _ = _
  rw [bools_map]
  simp [List.all_map, Function.comp_def]
end Ev


set_option Elab.async false
set_option linter.all false
set_option maxRecDepth 100000
set_option maxHeartbeats 4000000
/-! Ev, tools 4: rows of natural numbers. -/
namespace Ev
open PySem
def ND (xs : List Nat) : List Dt := xs.map fun (n : Nat) => PyData.int (n : Int)
def LT (xs : List Nat) : Dt := .tuple (ND xs)
def LL (xs : List Nat) : Dt := .list (ND xs)
theorem nd_len (xs : List Nat) : (ND xs).length = xs.length := List.length_map _
theorem nd_get (xs : List Nat) (k : Nat) : (ND xs)[k]? = xs[k]?.map fun (n : Nat) => PyData.int (n : Int) := List.getElem?_map
theorem nd_app (xs ys : List Nat) : ND xs ++ ND ys = ND (xs ++ ys) := List.map_append.symm
theorem nd_ints (xs : List Nat) : ints? (ND xs) = some (xs.map fun (n : Nat) => (n : Int)) := ints_map _ xs
theorem sum_cast (xs : List Nat) : (xs.map fun (n : Nat) => (n : Int)).sum = ((xs.sum : Nat) : Int) := by
  induction xs with
  | nil => rfl
  | cons x xs ih => rw [List.map_cons, List.sum_cons, List.sum_cons, ih]; omega
theorem len_T (xs : List Nat) : evLen (LT xs) = some (.int (xs.length : Int)) := by
  show some (PyData.int ((ND xs).length : Int)) = _
  rw [nd_len]
theorem len_L (xs : List Nat) : evLen (LL xs) = some (.int (xs.length : Int)) := by
  show some (PyData.int ((ND xs).length : Int)) = _
  rw [nd_len]
theorem sum_T (xs : List Nat) : evSum (LT xs) = some (.int ((xs.sum : Nat) : Int)) := by
  show (ints? (ND xs)).map _ = _
  rw [nd_ints, ← sum_cast]
  rfl
theorem sum_L (xs : List Nat) : evSum (LL xs) = some (.int ((xs.sum : Nat) : Int)) := by
  show (ints? (ND xs)).map _ = _
  rw [nd_ints, ← sum_cast]
  rfl
theorem idx_L {xs : List Nat} {k x : Nat} (h : xs[k]? = some x) : evIdx (LL xs) (.int (k : Int)) = some (.int (x : Int)) := idx_map h
theorem idx_tn {L : List Dt} {k : Nat} {v : Dt} (h : L[k]? = some v) : evIdx (.tuple L) (.int (k : Int)) = some v := by
  have : k < L.length := (List.getElem?_eq_some_iff.mp h).1
  show (ixOf L.length (k : Int)).bind _ = _
  rw [ixOf_n this]
  exact h
theorem idx_tlast {L : List Dt} {v : Dt} (h : L[L.length - 1]? = some v) : evIdx (.tuple L) (.int (-1)) = some v := by
  have : L.length - 1 < L.length := (List.getElem?_eq_some_iff.mp h).1
  show (ixOf L.length (-1)).bind _ = _
  rw [ixOf_last (by omega)]
  exact h
theorem idx_T {xs : List Nat} {k x : Nat} (h : xs[k]? = some x) : evIdx (LT xs) (.int (k : Int)) = some (.int (x : Int)) := idx_tn (by rw [nd_get, h]; rfl)
theorem idx_Tlast {xs : List Nat} {x : Nat} (h : xs[xs.length - 1]? = some x) : evIdx (LT xs) (.int (-1)) = some (.int (x : Int)) := idx_tlast (by rw [nd_len, nd_get, h]; rfl)
theorem sl_Tfrom (xs : List Nat) (s : Nat) : evSlice (LT xs) (some (s : Int)) none = some (LT (xs.drop s)) := by
  show some (PyData.tuple (cutL (ND xs) (some (s : Int)) none)) = _
  rw [cut_from]
  unfold LT ND
  rw [List.map_drop]
theorem sl_Tto (xs : List Nat) (s : Nat) : evSlice (LT xs) none (some (s : Int)) = some (LT (xs.take s)) := by
  show some (PyData.tuple (cutL (ND xs) none (some (s : Int)))) = _
  rw [cut_to]
  unfold LT ND
  rw [List.map_take]
theorem sl_Lto (xs : List Nat) (s : Nat) : evSlice (LL xs) none (some (s : Int)) = some (LL (xs.take s)) := slice_to xs s
theorem sl_Lfrom (xs : List Nat) (s : Nat) : evSlice (LL xs) (some (s : Int)) none = some (LL (xs.drop s)) := slice_from xs s
theorem clip_m1 (n d : Nat) : clipIx n d (some (-1)) = n - 1 := by
  show (if (-1 : Int) < 0 then ((-1 : Int) + (n : Int)).toNat else min (-1 : Int).toNat n) = _
  rw [if_pos (by decide)]
  omega
/-- all but the last -/
theorem sl_Tinit (xs : List Nat) : evSlice (LT xs) none (some (-1)) = some (LT (xs.take (xs.length - 1))) := by
  show some (PyData.tuple (cutL (ND xs) none (some (-1)))) = _
  unfold cutL
  rw [clip_none, List.drop_zero, Nat.sub_zero, clip_m1, nd_len]
  unfold LT ND
  rw [List.map_take]
theorem rev_T {xs : List Nat} (h : xs.length ≤ 1000) : evRev (LT xs) = some (LT xs.reverse) := by
  show (if (ND xs).length ≤ cap then some (PyData.tuple (ND xs).reverse) else none) = _
  rw [if_pos (by rw [nd_len]; unfold cap; omega)]
  unfold LT ND
  rw [List.map_reverse]
theorem rev_L {xs : List Nat} (h : xs.length ≤ 1000) : evRev (LL xs) = some (LL xs.reverse) := by
  show (if (ND xs).length ≤ cap then some (PyData.list (ND xs).reverse) else none) = _
  rw [if_pos (by rw [nd_len]; unfold cap; omega)]
  unfold LL ND
  rw [List.map_reverse]
theorem add_T {xs ys : List Nat} (h : xs.length + ys.length ≤ 1000) : evAdd (LT xs) (LT ys) = some (LT (xs ++ ys)) := by
  show (if (ND xs).length + (ND ys).length ≤ cap then some (PyData.tuple (ND xs ++ ND ys)) else none) = _
  rw [if_pos (by rw [nd_len, nd_len]; unfold cap; omega), nd_app]
  rfl
theorem add_L {xs ys : List Nat} (h : xs.length + ys.length ≤ 1000) : evAdd (LL xs) (LL ys) = some (LL (xs ++ ys)) := by
  show (if (ND xs).length + (ND ys).length ≤ cap then some (PyData.list (ND xs ++ ND ys)) else none) = _
  rw [if_pos (by rw [nd_len, nd_len]; unfold cap; omega), nd_app]
  rfl
theorem tup_L (xs : List Nat) : evTuple (LL xs) = some (LT xs) := rfl
theorem lst_T (xs : List Nat) : evList (LT xs) = some (LL xs) := rfl
/-! sorted -/
def insN (x : Nat) : List Nat → List Nat
  | [] => [x]
  | y :: r => if x ≤ y then x :: y :: r else y :: insN x r
def sortN : List Nat → List Nat
  | [] => []
  | x :: r => insN x (sortN r)
theorem insI_cast (x : Nat) : ∀ ys : List Nat, insI (x : Int) (ys.map fun (n : Nat) => (n : Int)) = (insN x ys).map fun (n : Nat) => (n : Int)
  | [] => rfl
  | y :: r => by
    rw [List.map_cons, insI, insN]
    by_cases h : x ≤ y
    · rw [if_pos h, if_pos (by omega)]; rfl
    · rw [if_neg h, if_neg (by omega), insI_cast x r]; rfl
theorem sortI_cast : ∀ xs : List Nat, sortI (xs.map fun (n : Nat) => (n : Int)) = (sortN xs).map fun (n : Nat) => (n : Int)
  | [] => rfl
  | x :: r => by rw [List.map_cons, sortI, sortN, sortI_cast r, insI_cast]
theorem insN_perm (x : Nat) : ∀ ys : List Nat, (insN x ys).Perm (x :: ys)
  | [] => .refl _
  | y :: r => by
    rw [insN]
    by_cases h : x ≤ y
    · rw [if_pos h]
    · rw [if_neg h]
      exact ((insN_perm x r).cons y).trans (.swap ..)
theorem sortN_perm : ∀ xs : List Nat, (sortN xs).Perm xs
  | [] => .refl _
  | x :: r => (insN_perm x (sortN r)).trans ((sortN_perm r).cons x)
theorem insN_sorted (x : Nat) : ∀ {ys : List Nat}, ys.Pairwise (· ≤ ·) → (insN x ys).Pairwise (· ≤ ·)
  | [], _ => List.pairwise_singleton ..
  | y :: r, h => by
    rw [insN]
    obtain ⟨h1, h2⟩ := List.pairwise_cons.mp h
    by_cases hx : x ≤ y
    · rw [if_pos hx]
      refine List.pairwise_cons.mpr ⟨fun z hz => ?_, h⟩
      rcases List.mem_cons.mp hz with rfl | hz
      · exact hx
      · exact Nat.le_trans hx (h1 z hz)
    · rw [if_neg hx]
      refine List.pairwise_cons.mpr ⟨fun z hz => ?_, insN_sorted x h2⟩
      rcases List.mem_cons.mp ((insN_perm x r).mem_iff.mp hz) with rfl | hz
      · omega
      · exact h1 z hz
theorem sortN_sorted : ∀ xs : List Nat, (sortN xs).Pairwise (· ≤ ·)
  | [] => .nil
  | x :: r => insN_sorted x (sortN_sorted r)
theorem sortN_id : ∀ {xs : List Nat}, xs.Pairwise (· ≤ ·) → sortN xs = xs
  | [], _ => rfl
  | x :: r, h => by
    obtain ⟨h1, h2⟩ := List.pairwise_cons.mp h
    rw [sortN, sortN_id h2]
    cases r with
    | nil => rfl
    | cons y r => rw [insN, if_pos (h1 y List.mem_cons_self)]
theorem sortN_len (xs : List Nat) : (sortN xs).length = xs.length := (sortN_perm xs).length_eq
theorem sorted_L {xs : List Nat} (h : xs.length < 64) : evSorted (LL xs) = some (LL (sortN xs)) := by
  show (ints? (ND xs)).bind _ = _
  rw [nd_ints]
  show (if (xs.map fun (n : Nat) => (n : Int)).length < 64 then some (PyData.list ((sortI (xs.map fun (n : Nat) => (n : Int))).map PyData.int)) else none) = _
  rw [if_pos (by rw [List.length_map]; exact h), sortI_cast, List.map_map]
  rfl
theorem sorted_T {xs : List Nat} (h : xs.length < 64) : evSorted (LT xs) = some (LL (sortN xs)) := by
  show (ints? (ND xs)).bind _ = _
  rw [nd_ints]
  show (if (xs.map fun (n : Nat) => (n : Int)).length < 64 then some (PyData.list ((sortI (xs.map fun (n : Nat) => (n : Int))).map PyData.int)) else none) = _
  rw [if_pos (by rw [List.length_map]; exact h), sortI_cast, List.map_map]
  rfl
theorem seq_T (xs : List Nat) : seqOf (LT xs) = some (ND xs) := rfl
theorem seq_L (xs : List Nat) : seqOf (LL xs) = some (ND xs) := rfl
theorem shp_LT (xs : List Nat) : shp (LT xs) = true := by
  refine shp_tuple (k := 0) (fun x hx => ?_) (fun x hx => ?_) (by decide)
  · obtain ⟨y, _, rfl⟩ := List.mem_map.mp hx
    rfl
  · obtain ⟨y, _, rfl⟩ := List.mem_map.mp hx
    exact Nat.le_refl _
theorem shp_LL (xs : List Nat) : shp (LL xs) = true := shp_ints _ _
theorem eqvA_ND : ∀ xs ys : List Nat, PyData.eqvAll (ND xs) (ND ys) = decide (xs = ys)
  | [], [] => rfl
  | [], _ :: _ => rfl
  | _ :: _, [] => rfl
  | x :: xs, y :: ys => by
    show (PyData.eqv (.int (x : Int)) (.int (y : Int)) && PyData.eqvAll (ND xs) (ND ys)) = _
    rw [eqvA_ND xs ys]
    by_cases h : x = y
    · subst h; simp [PyData.eqv]
    · have : ((x : Int) == (y : Int)) = false := beq_eq_false_iff_ne.mpr (by omega)
      simp [PyData.eqv, this, h]
theorem eq_LT (xs ys : List Nat) : evEq (LT xs) (LT ys) = some (decide (xs = ys)) := by
  show evEq (.tuple _) (.tuple _) = _
  rw [evEq_tuple (shp_LT xs) (shp_LT ys), ← eqvA_ND]
  rfl
theorem eq_LL (xs ys : List Nat) : evEq (LL xs) (LL ys) = some (decide (xs = ys)) := by
  show evEq (.list _) (.list _) = _
  rw [evEq_list (shp_LL xs) (shp_LL ys), ← eqvA_ND]
  rfl
end Ev
namespace Ev
open PySem
def stp (W : Wd) (tg : Tg) (cs : Exs) (elt : Ex) (x : Dt) (g : Frm) : Res (Option Dt × Frm) := match asg tg x g with
  | none => .stuck
  | some g1 => match cs with
    | .nil => (evE W elt g1).noexc.bind fun y => .ok (some y.1, y.2)
    | .cons c _ => (evE W c g1).noexc.bind fun b => match b.1 with
      | .bool true => (evE W elt b.2).noexc.bind fun y => .ok (some y.1, y.2)
      | .bool false => .ok (none, b.2)
      | _ => .stuck
theorem e_comp (W : Wd) (f : Frm) (vs tg it cs elt) : evE W (.comp vs tg it cs elt) f = (evI W it f).bind fun p =>
      if vs.any (isOwn p.2) then .stuck else (compLoop vs (stp W tg cs elt) p.1 (wipeF p.2 vs)).noexc.bind fun q => .ok (.list q.1, backF p.2 q.2 vs) := by
  rw [evE]
  rfl
/-- a comprehension whose items are drawn: fr is the frame by what is drawn from -/
theorem comp_draw {α β : Type} {W : Wd} {v : Nat} {it : Itx} {elt : Ex} {f : Frm} {xs : List α} (g : α → Dt) (e : β → Dt) (P : β → Prop) (Ok : List Dt → Prop) (fr : List Dt → Frm) {o : List Dt} (ho : Ok o)
    (hi : evI W it f = .ok (xs.map g, fr o)) (hv : ∀ o, setOk (fr o) v = true) (hb : ∀ o o', (fr o)[v]? = (fr o')[v]?)
    (he : ∀ x ∈ xs, ∀ o, Ok o → ∃ r o', P r ∧ Ok o' ∧ evE W elt ((fr o).set v (.val (g x))) = .ok (e r, (fr o').set v (.val (g x)))) :
    ∃ (rs : List β) (o' : List Dt), rs.length = xs.length ∧ (∀ r ∈ rs, P r) ∧ Ok o' ∧ evE W (.comp [v] (.name v) it .nil elt) f = .ok (.list (rs.map e), fr o') := by
  have hl : ∀ o, v < (fr o).length := fun o => by
    have := hv o
    simp only [setOk, Bool.and_eq_true, decide_eq_true_eq] at this
    exact this.1
  have hw : ∀ o, isOwn (fr o) v = false := fun o => by
    have := hv o
    simp only [setOk, Bool.and_eq_true, Bool.not_eq_true'] at this
    exact this.2
  have wf : ∀ (o : List Dt) (s : Slot), wipeF ((fr o).set v s) [v] = (fr o).set v .no := fun o s => by simp [wipeF, List.set_set]
  have w0 : ∀ o, wipeF (fr o) [v] = (fr o).set v .no := fun o => by simp [wipeF]
  have as : ∀ o x, asg (.name v) x ((fr o).set v .no) = some ((fr o).set v (.val x)) := fun o x => by
    have h1 : isOwn ((fr o).set v .no) v = false := by simp [isOwn, hl o]
    simp [asg, h1, hl o, List.set_set]
  have loop : ∀ ys : List α, (∀ y ∈ ys, y ∈ xs) → ∀ o, Ok o → ∃ (rs : List β) (o' : List Dt), rs.length = ys.length ∧ (∀ r ∈ rs, P r) ∧ Ok o' ∧ compLoop [v] (stp W (.name v) .nil elt) (ys.map g) ((fr o).set v .no) = .ok (rs.map e, (fr o').set v .no) := fun ys => by
    induction ys with
    | nil => exact fun _ o ho => ⟨[], o, rfl, nofun, ho, rfl⟩
    | cons y ys ih =>
      intro hy o ho
      obtain ⟨r, o1, p1, ho1, e1⟩ := he y (hy y List.mem_cons_self) o ho
      obtain ⟨rs, o2, l2, p2, ho2, e2⟩ := ih (fun z hz => hy z (List.mem_cons_of_mem _ hz)) o1 ho1
      refine ⟨r :: rs, o2, by rw [List.length_cons, List.length_cons, l2], fun z hz => ?_, ho2, ?_⟩
      · rcases List.mem_cons.mp hz with rfl | hz
        · exact p1
        · exact p2 z hz
      · have es : stp W (.name v) .nil elt (g y) ((fr o).set v .no) = .ok (some (e r), (fr o1).set v (.val (g y))) := by
          simp only [stp, as, e1, noexc_ok', bind_ok']
        rw [List.map_cons, compLoop, es]
        simp only [bind_ok', wf]
        rw [e2]
        rfl
  obtain ⟨rs, o', l1, p1, ho', el⟩ := loop xs (fun _ h => h) o ho
  refine ⟨rs, o', l1, p1, ho', ?_⟩
  rw [e_comp, hi]
  simp only [bind_ok', List.any_cons, List.any_nil, Bool.or_false, hw, Bool.false_eq_true, if_false, w0, el]
  simp only [noexc_ok', bind_ok', backF]
  have g1 : (fr o)[v]? = some ((fr o)[v]'(hl o)) := List.getElem?_eq_getElem (hl o)
  have g2 : (fr o')[v]? = some ((fr o)[v]'(hl o)) := by rw [← hb o o', g1]
  rw [g1]
  simp only [List.set_set]
  rw [List.getElem?_eq_getElem (hl o')] at g2
  have e3 : (fr o)[v]'(hl o) = (fr o')[v]'(hl o') := (Option.some.inj g2).symm
  rw [e3, List.set_getElem_self]
end Ev


set_option Elab.async false
set_option linter.all false
set_option maxRecDepth 100000
set_option maxHeartbeats 4000000
/-! Ev, tools 5: what repr wants of data. -/
namespace Ev
open PySem
structure Sh (w k : Nat) (d : Dt) : Prop where
  can : PyData.canLay0 d = true
  dep : PyData.depth d ≤ k
  wt : PyData.weight d ≤ w
  sh : PyData.intsShort 13 d = true
  sb : PyData.showable d = true
  nd : PyData.hasDict d = false
theorem log_12 {i : Int} (h : i.natAbs < 10 ^ 12) : i.natAbs.log2 < 40 := by
  by_cases e : i.natAbs = 0
  · rw [e]; decide
  · exact (Nat.log2_lt e).mpr (Nat.lt_of_lt_of_le h (show 10 ^ 12 ≤ 2 ^ 40 by decide))
theorem Sh.int {i : Int} (h : i.natAbs < 10 ^ 12) : Sh 40 0 (.int i) := by
  have l := log_12 h
  refine ⟨rfl, Nat.le_refl _, ?_, ?_, ?_, rfl⟩
  · rw [PyData.weight]
    split <;> omega
  · rw [PyData.intsShort]
    exact decide_eq_true (PyData.shown_int_le h)
  · rw [PyData.showable]
    exact decide_eq_true (by omega)
theorem Sh.nat {n : Nat} (h : n < 10 ^ 12) : Sh 40 0 (.int (n : Int)) := .int (by simpa using h)
theorem Sh.weak {w k w' k' : Nat} {d : Dt} (h : Sh w k d) (h1 : w ≤ w') (h2 : k ≤ k') : Sh w' k' d := ⟨h.can, Nat.le_trans h.dep h2, Nat.le_trans h.wt h1, h.sh, h.sb, h.nd⟩
theorem sh_all {w k : Nat} : ∀ {xs : List Dt}, (∀ x ∈ xs, Sh w k x) → PyData.canLayAll0 xs = true ∧ PyData.depthAll xs ≤ k ∧ PyData.weightAll xs ≤ (w + 1) * xs.length ∧ PyData.intsShortAll 13 xs = true ∧ PyData.showableAll xs = true ∧ PyData.hasDictAll xs = false
  | [], _ => ⟨rfl, Nat.zero_le _, Nat.zero_le _, rfl, rfl, rfl⟩
  | x :: xs, h => by
    obtain ⟨a1, a2, a3, a4, a5, a6⟩ := sh_all (xs := xs) fun y hy => h y (List.mem_cons_of_mem _ hy)
    have b := h x List.mem_cons_self
    refine ⟨?_, ?_, ?_, ?_, ?_, ?_⟩
    · rw [PyData.canLayAll0, a1, b.can]; rfl
    · rw [PyData.depthAll]; exact Nat.max_le.mpr ⟨b.dep, a2⟩
    · rw [PyData.weightAll, List.length_cons, Nat.mul_succ]
      have := b.wt
      omega
    · rw [PyData.intsShortAll, a4, b.sh]; rfl
    · rw [PyData.showableAll, a5, b.sb]; rfl
    · rw [PyData.hasDictAll, a6, b.nd]; rfl
theorem Sh.tup {w k n : Nat} {xs : List Dt} (h : ∀ x ∈ xs, Sh w k x) (hn : (w + 1) * xs.length ≤ n) : Sh n (k + 1) (.tuple xs) := by
  obtain ⟨a1, a2, a3, a4, a5, a6⟩ := sh_all h
  refine ⟨?_, ?_, ?_, ?_, ?_, ?_⟩
  · rw [PyData.canLay0, a1]
  · rw [PyData.depth]; omega
  · rw [PyData.weight]; omega
  · rw [PyData.intsShort, a4]
  · rw [PyData.showable, a5]
  · rw [PyData.hasDict, a6]
theorem Sh.list {w k n : Nat} {xs : List Dt} (h : ∀ x ∈ xs, Sh w k x) (hn : (w + 1) * xs.length ≤ n) : Sh n (k + 1) (.list xs) := by
  obtain ⟨a1, a2, a3, a4, a5, a6⟩ := sh_all h
  refine ⟨?_, ?_, ?_, ?_, ?_, ?_⟩
  · rw [PyData.canLay0, a1]
  · rw [PyData.depth]; omega
  · rw [PyData.weight]; omega
  · rw [PyData.intsShort, a4]
  · rw [PyData.showable, a5]
  · rw [PyData.hasDict, a6]
theorem Sh.ok {w k : Nat} {d : Dt} (h : Sh w k d) (h1 : w ≤ 1000000) (h2 : k ≤ 60) : showOk d = true := by
  have l : PyData.layable0 d = true := by
    unfold PyData.layable0
    have := h.dep
    have := h.wt
    rw [h.can, decide_eq_true (show PyData.depth d ≤ 64 by omega), decide_eq_true (show PyData.weight d ≤ 2 ^ 20 by omega)]
    rfl
  have q := PyProof.Rows.shown_le13 l h.sh
  unfold showOk
  have := h.dep
  rw [h.sb, h.nd, decide_eq_true (show PyData.depth d ≤ 64 by omega), decide_eq_true (show (PyData.shown d).length ≤ cap by unfold cap; omega)]
  rfl
theorem show_LT {xs : List Nat} (h : ∀ x ∈ xs, x < 10 ^ 12) (hl : xs.length ≤ 1000) : showOk (LT xs) = true :=
  (Sh.tup (n := 41 * 1000) (fun x hx => by
    obtain ⟨n, hn, rfl⟩ := List.mem_map.mp hx
    exact Sh.nat (h n hn)) (by rw [nd_len]; omega)).ok (by decide) (by decide)
end Ev


set_option Elab.async false
set_option linter.all false
set_option maxRecDepth 100000
set_option maxHeartbeats 4000000
/-! Ev, tools 6: comprehensions with two for. -/
namespace Ev
open PySem
def stpO (W : Wd) (tg : Tg) (cs : Exs) (ws : List Nat) (tg2 : Tg) (it2 : Itx) (cs2 : Exs) (elt : Ex) (x : Dt) (g : Frm) : Res (List Dt × Frm) := match asg tg x g with
  | none => .stuck
  | some g1 => (match cs with
    | .nil => Res.ok (true, g1)
    | .cons c _ => (evE W c g1).noexc.bind fun b => match b.1 with
      | .bool t => .ok (t, b.2)
      | _ => .stuck).bind fun b => match b.1 with
    | false => .ok ([], b.2)
    | true => (evI W it2 b.2).noexc.bind fun q => (compLoop ws (stp W tg2 cs2 elt) q.1 (wipeF q.2 ws)).noexc
theorem ev_comp2 (W : Wd) (f : Frm) (vs tg it cs ws tg2 it2 cs2 elt) : evE W (.comp2 vs tg it cs ws tg2 it2 cs2 elt) f = (evI W it f).bind fun p =>
      if vs.any (isOwn p.2) then .stuck else
      (compOut vs (stpO W tg cs ws tg2 it2 cs2 elt) p.1 (wipeF p.2 vs)).noexc.bind fun q => if q.1.length ≤ cap then .ok (.list q.1, backF p.2 q.2 vs) else .stuck := by
  rw [evE]
  rfl
theorem set_same {f : Frm} {i : Nat} {s : Slot} (h : f[i]? = some s) : f.set i s = f := by
  obtain ⟨hl, e⟩ := List.getElem?_eq_some_iff.mp h
  rw [← e, List.set_getElem_self]
theorem comp2_t {α β : Type} {W : Wd} {v u : Nat} (huv : v ≠ u) {it it2 : Itx} {elt : Ex} {f F : Frm} {xs : List α} (g : α → Dt) (ys : α → List β) (g2 : β → Dt) (h : α → β → Dt)
    (hi : evI W it f = .ok (xs.map g, F)) (hv : setOk F v = true) (hu : setOk F u = true)
    (hi2 : ∀ x ∈ xs, evI W it2 ((F.set u .no).set v (.val (g x))) = .ok ((ys x).map g2, (F.set u .no).set v (.val (g x))))
    (he : ∀ x ∈ xs, ∀ y ∈ ys x, evE W elt (((F.set u .no).set v (.val (g x))).set u (.val (g2 y))) = .ok (h x y, ((F.set u .no).set v (.val (g x))).set u (.val (g2 y))))
    (hc : (xs.flatMap fun x => (ys x).map (h x)).length ≤ cap) :
    evE W (.comp2 [v, u] (.name v) it .nil [u] (.name u) it2 .nil elt) f = .ok (.list (xs.flatMap fun x => (ys x).map (h x)), F) := by
  simp only [setOk, Bool.and_eq_true, decide_eq_true_eq, Bool.not_eq_true'] at hv hu
  obtain ⟨lv, ov⟩ := hv
  obtain ⟨lu, ou⟩ := hu
  rw [ev_comp2, hi]
  have w0 : wipeF F [v, u] = (F.set u .no).set v .no := by simp [wipeF]
  simp only [bind_ok', List.any_cons, List.any_nil, Bool.or_false, ov, ou, Bool.false_eq_true, if_false, w0]
  generalize hB : F.set u .no = B at *
  have lB : B.length = F.length := by rw [← hB, List.length_set]
  have bu : ∀ s, (B.set v s)[u]? = some .no := fun s => by
    rw [List.getElem?_set_ne huv, ← hB, List.getElem?_set_self lu]
  have wu : ∀ s, (B.set v s).set u .no = B.set v s := fun s => set_same (bu s)
  have inner : ∀ x, x ∈ xs → ∀ zs : List β, (∀ z ∈ zs, z ∈ ys x) → compLoop [u] (stp W (.name u) .nil elt) (zs.map g2) (B.set v (.val (g x))) = .ok (zs.map (h x), B.set v (.val (g x))) := fun x hx zs => by
    induction zs with
    | nil => exact fun _ => rfl
    | cons z zs ih =>
      intro hz
      have e := he x hx z (hz z List.mem_cons_self)
      have as : asg (.name u) (g2 z) (B.set v (.val (g x))) = some ((B.set v (.val (g x))).set u (.val (g2 z))) := by
        rw [asg_name]
        have : setOk (B.set v (.val (g x))) u = true := by
          simp only [setOk, Bool.and_eq_true, decide_eq_true_eq, Bool.not_eq_true']
          exact ⟨by rw [List.length_set, lB]; exact lu, by simp only [isOwn, bu]⟩
        rw [if_pos this]
      have st : stp W (.name u) .nil elt (g2 z) (B.set v (.val (g x))) = .ok (some (h x z), (B.set v (.val (g x))).set u (.val (g2 z))) := by
        simp only [stp, as, e, noexc_ok', bind_ok']
      have wf : wipeF ((B.set v (.val (g x))).set u (.val (g2 z))) [u] = B.set v (.val (g x)) := by simp only [wipeF, List.set_set, wu]
      rw [List.map_cons, compLoop, st]
      simp only [bind_ok', wf, ih fun w hw => hz w (List.mem_cons_of_mem _ hw)]
      rfl
  have outer : ∀ zs : List α, (∀ z ∈ zs, z ∈ xs) → compOut [v, u] (stpO W (.name v) .nil [u] (.name u) it2 .nil elt) (zs.map g) (B.set v .no) = .ok (zs.flatMap fun x => (ys x).map (h x), B.set v .no) := fun zs => by
    induction zs with
    | nil => exact fun _ => rfl
    | cons z zs ih =>
      intro hz
      have zx := hz z List.mem_cons_self
      have as : asg (.name v) (g z) (B.set v .no) = some (B.set v (.val (g z))) := by
        rw [asg_name]
        have : setOk (B.set v .no) v = true := by
          simp only [setOk, Bool.and_eq_true, decide_eq_true_eq, Bool.not_eq_true']
          refine ⟨by rw [List.length_set, lB]; exact lv, ?_⟩
          unfold isOwn
          rw [List.getElem?_set_self (by rw [lB]; exact lv)]
        rw [if_pos this, List.set_set]
      have wf : wipeF (B.set v (.val (g z))) [u] = B.set v (.val (g z)) := by simp only [wipeF, wu]
      have st : stpO W (.name v) .nil [u] (.name u) it2 .nil elt (g z) (B.set v .no) = .ok ((ys z).map (h z), B.set v (.val (g z))) := by
        simp only [stpO, as, bind_ok', hi2 z zx, noexc_ok', wf, inner z zx (ys z) fun _ h => h]
      have wo : wipeF (B.set v (.val (g z))) [v, u] = B.set v .no := by simp only [wipeF, wu, List.set_set]
      rw [List.map_cons, compOut, st]
      simp only [bind_ok', wo, ih fun w hw => hz w (List.mem_cons_of_mem _ hw)]
      rfl
  rw [outer xs fun _ h => h]
  simp only [noexc_ok', bind_ok', hc, if_true]
  congr 2
  have gv : F[v]? = some (F[v]'lv) := List.getElem?_eq_getElem lv
  have gu : F[u]? = some (F[u]'lu) := List.getElem?_eq_getElem lu
  simp only [backF, gv, gu]
  refine List.ext_getElem? fun i => ?_
  by_cases h1 : v = i
  · subst h1
    rw [List.getElem?_set_self (by rw [List.length_set, List.length_set, lB]; exact lv), gv]
  · rw [List.getElem?_set_ne h1]
    by_cases h2 : u = i
    · subst h2
      rw [List.getElem?_set_self (by rw [List.length_set, lB]; exact lu), gu]
    · rw [List.getElem?_set_ne h2, List.getElem?_set_ne h1, ← hB, List.getElem?_set_ne h2]
/-- each item so many times -/
def grow (xs : List Nat) (m : Nat) : List Nat := xs.flatMap fun x => List.replicate m x
theorem grow_len (xs : List Nat) (m : Nat) : (grow xs m).length = xs.length * m := by
  unfold grow
  induction xs with
  | nil => simp
  | cons x xs ih => rw [List.flatMap_cons, List.length_append, ih, List.length_replicate, List.length_cons, Nat.succ_mul, Nat.add_comm]
theorem grow_nd (xs : List Nat) (m : Nat) : (xs.flatMap fun (x : Nat) => (List.range m).map fun (_ : Nat) => PyData.int ((x : Nat) : Int)) = ND (grow xs m) := by
  unfold ND grow
  rw [List.map_flatMap]
  congr 1
  funext x
  rw [List.map_replicate, List.map_const', List.length_range]
/-- enumerate -/
theorem enum_nd : ∀ (xs : List Nat) (n : Nat), enumL n (ND xs) = (List.range xs.length).map fun k => PyData.tuple [.int ((n + k : Nat) : Int), .int ((xs.getD k 0 : Nat) : Int)]
  | [], n => rfl
  | x :: xs, n => by
    show PyData.tuple [.int (n : Int), .int (x : Int)] :: enumL (n + 1) (ND xs) = _
    rw [enum_nd xs (n + 1), List.length_cons, List.range_succ_eq_map, List.map_cons, List.map_map]
    congr 1
    refine List.map_congr_left fun k _ => ?_
    simp only [Function.comp, List.getD_cons_succ]
    rw [show n + 1 + k = n + k.succ by omega]
/-- a comprehension over pairs with one test -/
theorem comp_pair {α : Type} {W : Wd} {v u : Nat} (huv : v ≠ u) {it : Itx} {c : Ex} {r : Exs} {elt : Ex} {f F : Frm} {xs : List α} (g g2 : α → Dt) (q : α → Bool) (h : α → Dt)
    (hi : evI W it f = .ok (xs.map fun x => .tuple [g x, g2 x], F)) (hv : setOk F v = true) (hu : setOk F u = true)
    (hc : ∀ x ∈ xs, evE W c ((F.set v (.val (g x))).set u (.val (g2 x))) = .ok (.bool (q x), (F.set v (.val (g x))).set u (.val (g2 x))))
    (he : ∀ x ∈ xs, q x = true → evE W elt ((F.set v (.val (g x))).set u (.val (g2 x))) = .ok (h x, (F.set v (.val (g x))).set u (.val (g2 x)))) :
    evE W (.comp [v, u] (.tup (.cons (.name v) (.cons (.name u) .nil))) it (.cons c r) elt) f = .ok (.list ((xs.filter q).map h), F) := by
  simp only [setOk, Bool.and_eq_true, decide_eq_true_eq, Bool.not_eq_true'] at hv hu
  obtain ⟨lv, ov⟩ := hv
  obtain ⟨lu, ou⟩ := hu
  rw [e_comp, hi]
  simp only [bind_ok', List.any_cons, List.any_nil, Bool.or_false, ov, ou, Bool.false_eq_true, if_false]
  generalize hB : wipeF F [v, u] = B
  have eB : B = (F.set u .no).set v .no := by rw [← hB]; simp [wipeF]
  have as : ∀ x, asg (.tup (.cons (.name v) (.cons (.name u) .nil))) (.tuple [g x, g2 x]) B = some ((F.set v (.val (g x))).set u (.val (g2 x))) := fun x => by
    have s1 : setOk B v = true := by
      simp only [setOk, Bool.and_eq_true, decide_eq_true_eq, Bool.not_eq_true', eB]
      refine ⟨by simpa using lv, ?_⟩
      unfold isOwn
      rw [List.getElem?_set_self (by simpa using lv)]
    have s2 : setOk (B.set v (.val (g x))) u = true := by
      simp only [setOk, Bool.and_eq_true, decide_eq_true_eq, Bool.not_eq_true', eB, List.set_set]
      refine ⟨by simpa using lu, ?_⟩
      unfold isOwn
      rw [List.getElem?_set_ne huv, List.getElem?_set_self lu]
    rw [asg_tup, asgs_cons, asg_name, if_pos s1]
    show asgs _ _ _ = _
    rw [asgs_cons, asg_name, if_pos s2]
    show asgs _ _ _ = _
    rw [asgs_nil]
    congr 1
    rw [eB, List.set_set]
    rw [List.set_comm _ _ huv, List.set_set, ]
    rw [List.set_comm _ _ (Ne.symm huv)]
  have wf : ∀ x, wipeF ((F.set v (.val (g x))).set u (.val (g2 x))) [v, u] = B := fun x => by
    simp only [wipeF, List.set_set]
    rw [List.set_comm _ _ (Ne.symm huv), List.set_set, eB]
    rw [List.set_comm _ _ huv]
  have loop : ∀ zs : List α, (∀ z ∈ zs, z ∈ xs) → compLoop [v, u] (stp W (.tup (.cons (.name v) (.cons (.name u) .nil))) (.cons c r) elt) (zs.map fun x => .tuple [g x, g2 x]) B = .ok ((zs.filter q).map h, B) := fun zs => by
    induction zs with
    | nil => exact fun _ => rfl
    | cons z zs ih =>
      intro hz
      have zx := hz z List.mem_cons_self
      have st : stp W (.tup (.cons (.name v) (.cons (.name u) .nil))) (.cons c r) elt (.tuple [g z, g2 z]) B = .ok (if q z then some (h z) else none, (F.set v (.val (g z))).set u (.val (g2 z))) := by
        simp only [stp, as, hc z zx, noexc_ok', bind_ok']
        cases hq : q z
        · simp
        · simp [he z zx hq]
      rw [List.map_cons, compLoop, st]
      simp only [bind_ok', wf, ih fun w hw => hz w (List.mem_cons_of_mem _ hw)]
      cases hq : q z
      · simp [hq]
      · simp [hq]
  rw [loop xs fun _ h => h]
  simp only [noexc_ok', bind_ok']
  congr 2
  have gv : F[v]? = some (F[v]'lv) := List.getElem?_eq_getElem lv
  have gu : F[u]? = some (F[u]'lu) := List.getElem?_eq_getElem lu
  simp only [backF, gv, gu, eB]
  refine List.ext_getElem? fun i => ?_
  by_cases h1 : v = i
  · subst h1
    rw [List.getElem?_set_self (by simpa using lv), gv]
  · rw [List.getElem?_set_ne h1]
    by_cases h2 : u = i
    · subst h2
      rw [List.getElem?_set_self (by simpa using lu), gu]
    · rw [List.getElem?_set_ne h2, List.getElem?_set_ne h1, List.getElem?_set_ne h2]
end Ev


set_option Elab.async false
set_option linter.all false
set_option maxRecDepth 100000
set_option maxHeartbeats 1000000
/-! Ev, tools 7: comprehensions over pairs. -/
namespace Ev
open PySem
theorem comp_pair0 {α : Type} {W : Wd} {v u : Nat} (huv : v ≠ u) {it : Itx} {elt : Ex} {f F : Frm} {xs : List α} (g g2 : α → Dt) (h : α → Dt)
    (hi : evI W it f = .ok (xs.map fun x => .tuple [g x, g2 x], F)) (hv : setOk F v = true) (hu : setOk F u = true)
    (he : ∀ x ∈ xs, evE W elt ((F.set v (.val (g x))).set u (.val (g2 x))) = .ok (h x, (F.set v (.val (g x))).set u (.val (g2 x)))) :
    evE W (.comp [v, u] (.tup (.cons (.name v) (.cons (.name u) .nil))) it .nil elt) f = .ok (.list (xs.map h), F) := by
  simp only [setOk, Bool.and_eq_true, decide_eq_true_eq, Bool.not_eq_true'] at hv hu
  obtain ⟨lv, ov⟩ := hv
  obtain ⟨lu, ou⟩ := hu
  rw [e_comp, hi]
  simp only [bind_ok', List.any_cons, List.any_nil, Bool.or_false, ov, ou, Bool.false_eq_true, if_false]
  generalize hB : wipeF F [v, u] = B
  have eB : B = (F.set u .no).set v .no := by rw [← hB]; simp [wipeF]
  have as : ∀ x, asg (.tup (.cons (.name v) (.cons (.name u) .nil))) (.tuple [g x, g2 x]) B = some ((F.set v (.val (g x))).set u (.val (g2 x))) := fun x => by
    have s1 : setOk B v = true := by
      simp only [setOk, Bool.and_eq_true, decide_eq_true_eq, Bool.not_eq_true', eB]
      refine ⟨by simpa using lv, ?_⟩
      unfold isOwn
      rw [List.getElem?_set_self (by simpa using lv)]
    have s2 : setOk (B.set v (.val (g x))) u = true := by
      simp only [setOk, Bool.and_eq_true, decide_eq_true_eq, Bool.not_eq_true', eB, List.set_set]
      refine ⟨by simpa using lu, ?_⟩
      unfold isOwn
      rw [List.getElem?_set_ne huv, List.getElem?_set_self lu]
    rw [asg_tup, asgs_cons, asg_name, if_pos s1]
    show asgs _ _ _ = _
    rw [asgs_cons, asg_name, if_pos s2]
    show asgs _ _ _ = _
    rw [asgs_nil]
    congr 1
    rw [eB, List.set_set]
    rw [List.set_comm _ _ huv, List.set_set, ]
    rw [List.set_comm _ _ (Ne.symm huv)]
  have wf : ∀ x, wipeF ((F.set v (.val (g x))).set u (.val (g2 x))) [v, u] = B := fun x => by
    simp only [wipeF, List.set_set]
    rw [List.set_comm _ _ (Ne.symm huv), List.set_set, eB]
    rw [List.set_comm _ _ huv]
  have loop : ∀ zs : List α, (∀ z ∈ zs, z ∈ xs) → compLoop [v, u] (stp W (.tup (.cons (.name v) (.cons (.name u) .nil))) .nil elt) (zs.map fun x => .tuple [g x, g2 x]) B = .ok (zs.map h, B) := fun zs => by
    induction zs with
    | nil => exact fun _ => rfl
    | cons z zs ih =>
      intro hz
      have zx := hz z List.mem_cons_self
      have st : stp W (.tup (.cons (.name v) (.cons (.name u) .nil))) .nil elt (.tuple [g z, g2 z]) B = .ok (some (h z), (F.set v (.val (g z))).set u (.val (g2 z))) := by
        simp only [stp, as, he z zx, noexc_ok', bind_ok']
      rw [List.map_cons, compLoop, st]
      simp only [bind_ok', wf, ih fun w hw => hz w (List.mem_cons_of_mem _ hw)]
      rfl
  rw [loop xs fun _ h => h]
  simp only [noexc_ok', bind_ok']
  congr 2
  have gv : F[v]? = some (F[v]'lv) := List.getElem?_eq_getElem lv
  have gu : F[u]? = some (F[u]'lu) := List.getElem?_eq_getElem lu
  simp only [backF, gv, gu, eB]
  refine List.ext_getElem? fun i => ?_
  by_cases h1 : v = i
  · subst h1
    rw [List.getElem?_set_self (by simpa using lv), gv]
  · rw [List.getElem?_set_ne h1]
    by_cases h2 : u = i
    · subst h2
      rw [List.getElem?_set_self (by simpa using lu), gu]
    · rw [List.getElem?_set_ne h2, List.getElem?_set_ne h1, List.getElem?_set_ne h2]
end Ev


set_option Elab.async false
set_option linter.all false
set_option maxRecDepth 100000
set_option maxHeartbeats 4000000
/-! plain laws: lowest terms; binomials. -/
namespace RatL
/-! ### lowest terms -/
def rp (n d : Int) : Int × Int := (n / (Int.gcd n d : Int), d / (Int.gcd n d : Int))
theorem gpos {n d : Int} (h : 0 < d) : 0 < (Int.gcd n d : Int) := by
  have : Int.gcd n d ≠ 0 := fun e => by
    have := (Int.gcd_eq_zero_iff.mp e).2
    omega
  omega
theorem rp1 {n d : Int} : (rp n d).1 * (Int.gcd n d : Int) = n := Int.ediv_mul_cancel (Int.gcd_dvd_left ..)
theorem rp2 {n d : Int} : (rp n d).2 * (Int.gcd n d : Int) = d := Int.ediv_mul_cancel (Int.gcd_dvd_right ..)
theorem rp2_pos {n d : Int} (h : 0 < d) : 0 < (rp n d).2 := by
  have g := gpos (n := n) h
  have e := rp2 (n := n) (d := d)
  rcases Int.lt_or_le 0 (rp n d).2 with q | q
  · exact q
  · have := Int.mul_nonpos_of_nonpos_of_nonneg q (Int.le_of_lt g)
    omega
theorem rp_scale {n d k : Int} (hk : 0 < k) : rp (n * k) (d * k) = rp n d := by
  unfold rp
  have e : (Int.gcd (n * k) (d * k) : Int) = (Int.gcd n d : Int) * k := by
    rw [Int.gcd_mul_right]
    have : (k.natAbs : Int) = k := by omega
    rw [Int.natCast_mul, this]
  rw [e, Int.mul_ediv_mul_of_pos_left _ _ hk, Int.mul_ediv_mul_of_pos_left _ _ hk]
theorem rp_eq {n d n' d' : Int} (h : 0 < d) (h' : 0 < d') (e : n * d' = n' * d) : rp n d = rp n' d' := by
  rw [← rp_scale (n := n) (d := d) h', ← rp_scale (n := n') (d := d') h, e, Int.mul_comm d d']
theorem rp_plus {n m d : Int} (h : 0 < d) : rp ((rp n d).1 * (rp m d).2 + (rp m d).1 * (rp n d).2) ((rp n d).2 * (rp m d).2) = rp (n + m) d := by
  have a := gpos (n := n) h
  have b := gpos (n := m) h
  have e1 := rp1 (n := n) (d := d)
  have e2 := rp2 (n := n) (d := d)
  have e3 := rp1 (n := m) (d := d)
  have e4 := rp2 (n := m) (d := d)
  generalize (rp n d).1 = x at *
  generalize (rp n d).2 = y at *
  generalize (rp m d).1 = z at *
  generalize (rp m d).2 = w at *
  generalize (Int.gcd n d : Int) = g at *
  generalize (Int.gcd m d : Int) = k at *
  rw [← rp_scale (n := x * w + z * y) (d := y * w) (Int.mul_pos a b), ← rp_scale (n := n + m) (d := d) h]
  have q1 : (x * w + z * y) * (g * k) = (n + m) * d := by
    have : (x * w + z * y) * (g * k) = (x * g) * (w * k) + (z * k) * (y * g) := by
      simp only [Int.add_mul, Int.mul_add, Int.mul_comm, Int.mul_left_comm, Int.mul_assoc]
    rw [this, e1, e2, e3, e4, Int.add_mul]
  have q2 : y * w * (g * k) = d * d := by
    have : y * w * (g * k) = (y * g) * (w * k) := by simp only [Int.mul_comm, Int.mul_left_comm, Int.mul_assoc]
    rw [this, e2, e4]
  rw [q1, q2]
theorem rp_times {n d s : Int} (h : 0 < d) : rp ((rp n d).1 * s) ((rp n d).2 * 1) = rp (n * s) d := by
  have a := gpos (n := n) h
  rw [← rp_scale (n := (rp n d).1 * s) (d := (rp n d).2 * 1) a]
  have q1 : (rp n d).1 * s * (Int.gcd n d : Int) = n * s := by
    rw [Int.mul_right_comm, rp1]
  have q2 : (rp n d).2 * 1 * (Int.gcd n d : Int) = d := by rw [Int.mul_one, rp2]
  rw [q1, q2]
theorem rp_less {n m d : Int} (h : 0 < d) : (rp n d).1 * (rp m d).2 < (rp m d).1 * (rp n d).2 ↔ n < m := by
  have a := gpos (n := n) h
  have b := gpos (n := m) h
  have ab := Int.mul_pos a b
  have q1 : (rp n d).1 * (rp m d).2 * ((Int.gcd n d : Int) * (Int.gcd m d : Int)) = n * d := by
    have : (rp n d).1 * (rp m d).2 * ((Int.gcd n d : Int) * (Int.gcd m d : Int)) = ((rp n d).1 * (Int.gcd n d : Int)) * ((rp m d).2 * (Int.gcd m d : Int)) := by
      simp only [Int.mul_comm, Int.mul_left_comm, Int.mul_assoc]
    rw [this, rp1, rp2]
  have q2 : (rp m d).1 * (rp n d).2 * ((Int.gcd n d : Int) * (Int.gcd m d : Int)) = m * d := by
    have : (rp m d).1 * (rp n d).2 * ((Int.gcd n d : Int) * (Int.gcd m d : Int)) = ((rp m d).1 * (Int.gcd m d : Int)) * ((rp n d).2 * (Int.gcd n d : Int)) := by
      simp only [Int.mul_comm, Int.mul_left_comm, Int.mul_assoc]
    rw [this, rp1, rp2]
  constructor
  · intro lt
    have := Int.mul_lt_mul_of_pos_right lt ab
    rw [q1, q2] at this
    exact Int.lt_of_mul_lt_mul_right this (Int.le_of_lt h)
  · intro lt
    have := Int.mul_lt_mul_of_pos_right lt h
    rw [← q1, ← q2] at this
    exact Int.lt_of_mul_lt_mul_right this (Int.le_of_lt ab)
theorem rp_one {d : Int} (h : 0 < d) : rp d d = (1, 1) := by
  have : rp (1 * d) (1 * d) = rp 1 1 := rp_scale h
  rw [Int.one_mul] at this
  rw [this]
  rfl
theorem rp_zero {d : Int} (h : 0 < d) : rp 0 d = (0, 1) := by
  have : rp (0 * d) (1 * d) = rp 0 1 := rp_scale h
  rw [Int.one_mul, Int.zero_mul] at this
  rw [this]
  rfl
theorem rp1_zero {n d : Int} (h : 0 < d) : (rp n d).1 = 0 ↔ n = 0 := by
  constructor
  · intro e
    have := rp1 (n := n) (d := d)
    rw [e, Int.zero_mul] at this
    exact this.symm
  · intro e
    rw [e, rp_zero h]
theorem rp1_abs {n d : Int} (h : 0 < d) : (rp n d).1.natAbs ≤ n.natAbs := by
  have g := gpos (n := n) h
  have e := congrArg Int.natAbs (rp1 (n := n) (d := d))
  rw [Int.natAbs_mul] at e
  rw [← e]
  exact Nat.le_mul_of_pos_right _ (by omega)
theorem rp2_abs {n d : Int} (h : 0 < d) : (rp n d).2.natAbs ≤ d.natAbs := by
  have g := gpos (n := n) h
  have e := congrArg Int.natAbs (rp2 (n := n) (d := d))
  rw [Int.natAbs_mul] at e
  exact Nat.le_trans (Nat.le_mul_of_pos_right _ (show 0 < ((Int.gcd n d : Int)).natAbs by omega)) (Nat.le_of_eq e)

/-! ### binomials -/
def bn : Nat → Nat → Nat
  | _, 0 => 1
  | 0, _ + 1 => 0
  | n + 1, k + 1 => bn n k + bn n (k + 1)
theorem bn_zero (n : Nat) : bn n 0 = 1 := by cases n <;> rfl
theorem bn_succ (n k : Nat) : bn (n + 1) (k + 1) = bn n k + bn n (k + 1) := rfl
theorem bn_gt : ∀ {n k : Nat}, n < k → bn n k = 0
  | 0, k + 1, _ => rfl
  | n + 1, k + 1, h => by rw [bn_succ, bn_gt (by omega), bn_gt (by omega)]
theorem bn_self : ∀ n : Nat, bn n n = 1
  | 0 => rfl
  | n + 1 => by rw [bn_succ, bn_self n, bn_gt (Nat.lt_succ_self n)]
theorem bn_pos : ∀ {n k : Nat}, k ≤ n → 0 < bn n k
  | n, 0, _ => by rw [bn_zero]; decide
  | n + 1, k + 1, h => by
    rw [bn_succ]
    have := bn_pos (n := n) (k := k) (by omega)
    omega
theorem bn_le : ∀ n k : Nat, bn n k ≤ 2 ^ n
  | n, 0 => by rw [bn_zero]; exact Nat.one_le_two_pow
  | 0, k + 1 => Nat.zero_le _
  | n + 1, k + 1 => by
    rw [bn_succ, Nat.pow_succ]
    have h1 := bn_le n k
    have h2 := bn_le n (k + 1)
    omega
/-- k+1 .. -/
theorem bn_absorb : ∀ n k : Nat, bn (n + 1) (k + 1) * (k + 1) = (n + 1) * bn n k
  | 0, 0 => rfl
  | 0, k + 1 => by rw [bn_gt (by omega), bn_gt (by omega)]; simp
  | n + 1, 0 => by
    have ih := bn_absorb n 0
    simp only [bn_zero, Nat.zero_add, Nat.mul_one] at ih
    rw [bn_succ (n + 1) 0]
    simp only [bn_zero, Nat.zero_add, Nat.mul_one]
    omega
  | n + 1, k + 1 => by
    have h1 := bn_absorb n k
    have h2 := bn_absorb n (k + 1)
    rw [bn_succ (n + 1) (k + 1)]
    have e : (bn (n + 1) (k + 1) + bn (n + 1) (k + 1 + 1)) * (k + 1 + 1) = bn (n + 1) (k + 1) * (k + 1) + bn (n + 1) (k + 1) + bn (n + 1) (k + 1 + 1) * (k + 1 + 1) := by
      rw [Nat.add_mul, Nat.mul_add (bn (n + 1) (k + 1)) (k + 1) 1, Nat.mul_one]
    rw [e, h1, h2, bn_succ n k]
    simp only [Nat.add_mul, Nat.mul_add, Nat.mul_one, Nat.one_mul]
    omega
/-- one further -/
theorem bn_next {n k : Nat} (h : k ≤ n) : bn n k * (n - k) = bn n (k + 1) * (k + 1) := by
  have h1 := bn_absorb n k
  rw [bn_succ, Nat.add_mul] at h1
  have e : bn n k * (n - k) = bn n k * n - bn n k * k := Nat.mul_sub _ _ _
  rw [e]
  have e2 : (n + 1) * bn n k = bn n k * n + bn n k := by rw [Nat.add_mul, Nat.one_mul, Nat.mul_comm]
  have e3 : bn n k * (k + 1) = bn n k * k + bn n k := by rw [Nat.mul_add, Nat.mul_one]
  omega
def sumN (f : Nat → Nat) : Nat → Nat
  | 0 => 0
  | n + 1 => sumN f n + f n
theorem sumN_congr {f g : Nat → Nat} : ∀ {n : Nat}, (∀ i, i < n → f i = g i) → sumN f n = sumN g n
  | 0, _ => rfl
  | n + 1, h => by
    rw [sumN, sumN, sumN_congr (n := n) fun i hi => h i (by omega), h n (by omega)]
theorem sumN_add {f g : Nat → Nat} : ∀ {n : Nat}, sumN (fun i => f i + g i) n = sumN f n + sumN g n
  | 0 => rfl
  | n + 1 => by rw [sumN, sumN, sumN, sumN_add]; omega
theorem sumN_mul {f : Nat → Nat} {c : Nat} : ∀ {n : Nat}, sumN (fun i => c * f i) n = c * sumN f n
  | 0 => rfl
  | n + 1 => by rw [sumN, sumN, sumN_mul, Nat.mul_add]
theorem sumN_head {f : Nat → Nat} : ∀ {n : Nat}, sumN f (n + 1) = f 0 + sumN (fun i => f (i + 1)) n
  | 0 => by simp [sumN]
  | n + 1 => by
    rw [sumN, sumN_head (n := n), sumN]
    omega
theorem sumN_split {f : Nat → Nat} {a : Nat} : ∀ {n : Nat}, sumN f (a + n) = sumN f a + sumN (fun i => f (a + i)) n
  | 0 => rfl
  | n + 1 => by
    show sumN f (a + n) + f (a + n) = _
    rw [sumN_split (n := n), sumN, Nat.add_assoc]
/-- all ways of d out of m and q -/
theorem vander : ∀ (m q d : Nat), sumN (fun s => bn m s * bn q (d - s)) (d + 1) = bn (m + q) d
  | 0, q, d => by
    rw [sumN_head]
    have : sumN (fun i => bn 0 (i + 1) * bn q (d - (i + 1))) d = 0 := by
      have : ∀ n, sumN (fun i => bn 0 (i + 1) * bn q (d - (i + 1))) n = 0 := fun n => by
        induction n with
        | zero => rfl
        | succ n ih => rw [sumN, ih]; simp [bn]
      exact this d
    rw [this]
    simp [bn_zero]
  | m + 1, q, 0 => by simp [sumN, bn_zero]
  | m + 1, q, d + 1 => by
    have h1 := vander m q d
    have h2 := vander m q (d + 1)
    rw [sumN_head] at h2 ⊢
    have e : sumN (fun i => bn (m + 1) (i + 1) * bn q (d + 1 - (i + 1))) (d + 1) = sumN (fun i => bn m i * bn q (d - i)) (d + 1) + sumN (fun i => bn m (i + 1) * bn q (d + 1 - (i + 1))) (d + 1) := by
      rw [← sumN_add]
      refine sumN_congr fun i _ => ?_
      rw [bn_succ, Nat.add_mul, show d + 1 - (i + 1) = d - i by omega]
    rw [e, h1]
    have e2 : m + 1 + q = (m + q) + 1 := by omega
    rw [e2, bn_succ, ← h2]
    simp only [bn_zero]
    omega
/-- the mean -/
theorem vander_mean (m q d : Nat) : sumN (fun s => bn m s * bn q (d - s) * s) (d + 1) * (m + q) = d * m * bn (m + q) d := by
  cases m with
  | zero =>
    have : ∀ n, sumN (fun s => bn 0 s * bn q (d - s) * s) n = 0 := fun n => by
      induction n with
      | zero => rfl
      | succ n ih =>
        rw [sumN, ih]
        cases n <;> simp [bn]
    rw [this]
    simp
  | succ m =>
    cases d with
    | zero => simp [sumN]
    | succ d =>
      rw [sumN_head]
      have e : sumN (fun i => bn (m + 1) (i + 1) * bn q (d + 1 - (i + 1)) * (i + 1)) (d + 1) = (m + 1) * bn (m + q) d := by
        rw [← vander m q d, ← sumN_mul]
        refine sumN_congr fun i _ => ?_
        rw [show d + 1 - (i + 1) = d - i by omega, Nat.mul_right_comm, bn_absorb m i, Nat.mul_assoc]
      rw [e, Nat.mul_zero, Nat.zero_add]
      have e2 : m + 1 + q = (m + q) + 1 := by omega
      rw [e2]
      have := bn_absorb (m + q) d
      calc (m + 1) * bn (m + q) d * (m + q + 1) = (m + 1) * ((m + q + 1) * bn (m + q) d) := by rw [Nat.mul_assoc, Nat.mul_comm (bn (m + q) d)]
        _ = (m + 1) * (bn (m + q + 1) (d + 1) * (d + 1)) := by rw [this]
        _ = (d + 1) * (m + 1) * bn (m + q + 1) (d + 1) := by
          rw [Nat.mul_comm (bn (m + q + 1) (d + 1)), ← Nat.mul_assoc, Nat.mul_comm (m + 1) (d + 1)]
/-- the upper tail: from r on -/
def tl (m q d r : Nat) : Nat := sumN (fun i => bn m (r + i) * bn q (d - (r + i))) (d + 1 - r)
theorem tl_less {m q d r : Nat} (h : r < d) : tl m q d (r + 1) ≤ tl m q d r := by
  unfold tl
  rw [show d + 1 - r = (d - r) + 1 by omega, sumN_head, show d + 1 - (r + 1) = d - r by omega]
  have : sumN (fun i => bn m (r + 1 + i) * bn q (d - (r + 1 + i))) (d - r) = sumN (fun i => bn m (r + (i + 1)) * bn q (d - (r + (i + 1)))) (d - r) := sumN_congr fun i _ => by rw [show r + 1 + i = r + (i + 1) by omega]
  rw [this]
  omega
theorem sumN_last {f : Nat → Nat} {n : Nat} (h : f n = 0) : sumN f (n + 1) = sumN f n := by rw [sumN, h, Nat.add_zero]
/-- one place higher: not less -/
theorem tl_place {m q d r : Nat} (h1 : r + 1 ≤ d) : tl m (q + 1) d (r + 1) ≤ tl (m + 1) q d (r + 1) := by
  obtain ⟨n, rfl⟩ : ∃ n, d = r + 1 + n := ⟨d - (r + 1), by omega⟩
  unfold tl
  have hn : r + 1 + n + 1 - (r + 1) = n + 1 := by omega
  rw [hn]
  have eL : sumN (fun i => bn m (r + 1 + i) * bn (q + 1) (r + 1 + n - (r + 1 + i))) (n + 1) = sumN (fun i => bn m (r + 1 + i) * bn q (n - i)) (n + 1) + sumN (fun i => bn m (r + 1 + i) * bn q (n - i - 1)) n := by
    rw [show sumN (fun i => bn m (r + 1 + i) * bn (q + 1) (r + 1 + n - (r + 1 + i))) (n + 1) = sumN (fun i => bn m (r + 1 + i) * bn (q + 1) (r + 1 + n - (r + 1 + i))) n + bn m (r + 1 + n) * bn (q + 1) (r + 1 + n - (r + 1 + n)) from rfl,
      show sumN (fun i => bn m (r + 1 + i) * bn q (n - i)) (n + 1) = sumN (fun i => bn m (r + 1 + i) * bn q (n - i)) n + bn m (r + 1 + n) * bn q (n - n) from rfl]
    have : sumN (fun i => bn m (r + 1 + i) * bn (q + 1) (r + 1 + n - (r + 1 + i))) n = sumN (fun i => bn m (r + 1 + i) * bn q (n - i)) n + sumN (fun i => bn m (r + 1 + i) * bn q (n - i - 1)) n := by
      rw [← sumN_add]
      refine sumN_congr fun i hi => ?_
      have e : r + 1 + n - (r + 1 + i) = (n - i - 1) + 1 := by omega
      have e2 : n - i = (n - i - 1) + 1 := by omega
      rw [e, bn_succ, Nat.mul_add, e2]
      simp only [Nat.add_sub_cancel]
      omega
    rw [this]
    simp only [Nat.sub_self, bn_zero]
    omega
  have eR : sumN (fun i => bn (m + 1) (r + 1 + i) * bn q (r + 1 + n - (r + 1 + i))) (n + 1) = sumN (fun i => bn m (r + 1 + i) * bn q (n - i)) (n + 1) + sumN (fun i => bn m (r + i) * bn q (n - i)) (n + 1) := by
    rw [← sumN_add]
    refine sumN_congr fun i hi => ?_
    rw [show r + 1 + n - (r + 1 + i) = n - i by omega, show r + 1 + i = (r + i) + 1 by omega, bn_succ, Nat.add_mul]
    omega
  rw [eL, eR, sumN_head (f := fun i => bn m (r + i) * bn q (n - i))]
  have : sumN (fun i => bn m (r + 1 + i) * bn q (n - i - 1)) n = sumN (fun i => bn m (r + (i + 1)) * bn q (n - (i + 1))) n := sumN_congr fun i _ => by
    rw [show r + 1 + i = r + (i + 1) by omega, show n - i - 1 = n - (i + 1) by omega]
  rw [this]
  omega
end RatL


set_option Elab.async false
set_option linter.all false
set_option maxRecDepth 100000
set_option maxHeartbeats 1000000
/-! plain laws of k85: what is above a bound, top sums, squares. -/
namespace M85
open RatL
/-- what a row has above c -/
def ab (c : Nat) (xs : List Nat) : Nat := (xs.map fun x => x - c).sum
theorem ab_nil (c : Nat) : ab c [] = 0 := rfl
theorem ab_cons (c x : Nat) (xs : List Nat) : ab c (x :: xs) = (x - c) + ab c xs := by unfold ab; rw [List.map_cons, List.sum_cons]
theorem ab_app (c : Nat) (xs ys : List Nat) : ab c (xs ++ ys) = ab c xs + ab c ys := by unfold ab; rw [List.map_append, List.sum_append]
theorem ab_perm {c : Nat} {xs ys : List Nat} (h : xs.Perm ys) : ab c xs = ab c ys := (h.map _).sum_nat
theorem ab_zero (xs : List Nat) : ab 0 xs = xs.sum := by
  unfold ab
  simp
/-- the first k of a row are at most k times c and what is above c -/
theorem take_le (c : Nat) : ∀ (zs : List Nat) (k : Nat), (zs.take k).sum ≤ k * c + ab c zs
  | [], k => by simp
  | z :: zs, 0 => by simp
  | z :: zs, k + 1 => by
    have := take_le c zs k
    rw [List.take_succ_cons, List.sum_cons, ab_cons, Nat.succ_mul]
    omega
/-- a falling row: at the k-th item -/
theorem take_at : ∀ {zs : List Nat} {k : Nat} (h : k < zs.length), zs.Pairwise (· ≥ ·) → (zs.take (k + 1)).sum = (k + 1) * zs[k] + ab zs[k] zs
  | z :: zs, 0, h, hp => by
    obtain ⟨h1, h2⟩ := List.pairwise_cons.mp hp
    have : ab z zs = 0 := by
      have : ∀ ys : List Nat, (∀ y ∈ ys, y ≤ z) → ab z ys = 0 := fun ys => by
        induction ys with
        | nil => intro _; rfl
        | cons y ys ih =>
          intro hy
          rw [ab_cons, ih fun w hw => hy w (List.mem_cons_of_mem _ hw)]
          have := hy y List.mem_cons_self
          omega
      exact this zs fun y hy => h1 y hy
    simp [ab_cons, this]
  | z :: zs, k + 1, h, hp => by
    obtain ⟨h1, h2⟩ := List.pairwise_cons.mp hp
    have hk : k < zs.length := by simpa using h
    have ih := take_at hk h2
    have hz := h1 zs[k] (List.getElem_mem hk)
    rw [List.take_succ_cons, List.sum_cons, ih]
    simp only [List.getElem_cons_succ]
    rw [ab_cons, Nat.succ_mul (k + 1)]
    omega
/-- a falling row: what is above c comes from its first items -/
theorem ab_take (c : Nat) : ∀ {zs : List Nat}, zs.Pairwise (· ≥ ·) → ∃ k, k ≤ zs.length ∧ ab c zs + k * c = (zs.take k).sum
  | [], _ => ⟨0, Nat.le_refl _, by simp [ab_nil]⟩
  | z :: zs, hp => by
    obtain ⟨h1, h2⟩ := List.pairwise_cons.mp hp
    by_cases hz : z ≤ c
    · refine ⟨0, Nat.zero_le _, ?_⟩
      have : ∀ ys : List Nat, (∀ y ∈ ys, y ≤ c) → ab c ys = 0 := fun ys => by
        induction ys with
        | nil => intro _; rfl
        | cons y ys ih =>
          intro hy
          rw [ab_cons, ih fun w hw => hy w (List.mem_cons_of_mem _ hw)]
          have := hy y List.mem_cons_self
          omega
      rw [this (z :: zs) fun y hy => by
        rcases List.mem_cons.mp hy with rfl | hy
        · exact hz
        · exact Nat.le_trans (h1 y hy) hz]
      simp
    · obtain ⟨k, k1, k2⟩ := ab_take c h2
      refine ⟨k + 1, by simpa using k1, ?_⟩
      rw [ab_cons, List.take_succ_cons, List.sum_cons, ← k2, Nat.succ_mul]
      omega
/-- top sums tell what is above, and the other way -/
theorem dom_ab {xs ys : List Nat} (hy : ys.Pairwise (· ≥ ·)) (h : ∀ k, k ≤ ys.length → (ys.take k).sum ≤ (xs.take k).sum) (c : Nat) : ab c ys ≤ ab c xs := by
  obtain ⟨k, k1, k2⟩ := ab_take c hy
  have h1 := h k k1
  have h2 := take_le c xs k
  omega
theorem dom_take {xs ys : List Nat} (hx : xs.Pairwise (· ≥ ·)) (hs : ys.sum ≤ xs.sum) (h : ∀ c ∈ xs, ab c ys ≤ ab c xs) (k : Nat) : (ys.take k).sum ≤ (xs.take k).sum := by
  by_cases hk : k ≤ xs.length
  · cases k with
    | zero => simp
    | succ k =>
      have hk' : k < xs.length := hk
      rw [take_at hk' hx]
      have := take_le xs[k] ys (k + 1)
      have := h xs[k] (List.getElem_mem hk')
      omega
  · rw [List.take_of_length_le (l := xs) (by omega)]
    have := take_le 0 ys k
    rw [ab_zero] at this
    omega
/-! ### squares -/
theorem tri : ∀ (x N : Nat), x ≤ N → x * x = x + 2 * sumN (fun t => x - (t + 1)) N
  | 0, N, _ => by
    have : ∀ N, sumN (fun t => 0 - (t + 1)) N = 0 := fun N => by
      induction N with
      | zero => rfl
      | succ N ih => rw [sumN, ih]; simp
    rw [this]
  | x + 1, 0, h => by omega
  | x + 1, N + 1, h => by
    have ih := tri x N (by omega)
    have e : sumN (fun t => x + 1 - (t + 1)) (N + 1) = x + sumN (fun t => x - (t + 1)) N := by
      rw [sumN_head]
      congr 1
      exact sumN_congr fun i _ => by omega
    rw [e, Nat.add_mul, Nat.mul_add, Nat.mul_one, Nat.one_mul, Nat.mul_add]
    omega
def sq (xs : List Nat) : Nat := (xs.map fun x => x * x).sum
theorem sq_ab {N : Nat} : ∀ {xs : List Nat}, (∀ x ∈ xs, x ≤ N) → sq xs = xs.sum + 2 * sumN (fun t => ab (t + 1) xs) N
  | [], _ => by
    have : ∀ N, sumN (fun t => ab (t + 1) []) N = 0 := fun N => by
      induction N with
      | zero => rfl
      | succ N ih => rw [sumN, ih]; rfl
    rw [this]
    rfl
  | x :: xs, h => by
    have ih := sq_ab (N := N) (xs := xs) fun y hy => h y (List.mem_cons_of_mem _ hy)
    have t := tri x N (h x List.mem_cons_self)
    have e : sumN (fun t => ab (t + 1) (x :: xs)) N = sumN (fun t => x - (t + 1)) N + sumN (fun t => ab (t + 1) xs) N := by
      rw [← sumN_add]
      exact sumN_congr fun i _ => ab_cons ..
    unfold sq at ih ⊢
    rw [List.map_cons, List.sum_cons, List.sum_cons, ih, t, e, Nat.mul_add]
    omega
theorem mem_sum {x : Nat} : ∀ {xs : List Nat}, x ∈ xs → x ≤ xs.sum
  | y :: ys, h => by
    rw [List.sum_cons]
    rcases List.mem_cons.mp h with rfl | h
    · omega
    · have := mem_sum h; omega
theorem sq_dom {xs ys : List Nat} (hs : ys.sum = xs.sum) (h : ∀ c, ab c ys ≤ ab c xs) : sq ys ≤ sq xs := by
  rw [sq_ab (N := xs.sum) (xs := ys) fun y hy => by rw [← hs]; exact mem_sum hy, sq_ab (N := xs.sum) (xs := xs) fun y hy => mem_sum hy, hs]
  have : ∀ N, sumN (fun t => ab (t + 1) ys) N ≤ sumN (fun t => ab (t + 1) xs) N := fun N => by
    induction N with
    | zero => exact Nat.le_refl _
    | succ N ih =>
      rw [sumN, sumN]
      have := h (N + 1)
      omega
  have := this xs.sum
  omega
/-! ### scaled rows -/
theorem ab_scale {b c : Nat} (hb : 0 < b) : ∀ xs : List Nat, ab (c * b) (xs.map (· * b)) = ab c xs * b
  | [] => by simp [ab_nil]
  | x :: xs => by
    rw [List.map_cons, ab_cons, ab_cons, ab_scale hb xs, Nat.add_mul, Nat.sub_mul]
theorem sum_scale (b : Nat) : ∀ xs : List Nat, (xs.map (· * b)).sum = xs.sum * b
  | [] => by simp
  | x :: xs => by rw [List.map_cons, List.sum_cons, List.sum_cons, sum_scale b xs, Nat.add_mul]
theorem sq_scale (b : Nat) : ∀ xs : List Nat, sq (xs.map (· * b)) = sq xs * (b * b)
  | [] => by simp [sq]
  | x :: xs => by
    have ih := sq_scale b xs
    unfold sq at ih ⊢
    rw [List.map_cons, List.map_cons, List.sum_cons, List.map_cons, List.sum_cons, ih, Nat.add_mul]
    congr 1
    simp only [Nat.mul_comm, Nat.mul_left_comm, Nat.mul_assoc]
theorem pair_scale {b : Nat} {xs : List Nat} (h : xs.Pairwise (· ≥ ·)) : (xs.map (· * b)).Pairwise (· ≥ ·) := List.pairwise_map.mpr (h.imp fun h => Nat.mul_le_mul_right b h)
theorem take_scale (b k : Nat) (xs : List Nat) : ((xs.map (· * b)).take k).sum = (xs.take k).sum * b := by rw [← List.map_take, sum_scale]
/-! ### mergers and shifts -/
/-- ys is at least as concentrated as xs: the same sum, and no less above any bound -/
structure Conc (xs ys : List Nat) : Prop where
  sum : ys.sum = xs.sum
  ab : ∀ c, ab c xs ≤ ab c ys
theorem Conc.refl (xs : List Nat) : Conc xs xs := ⟨rfl, fun _ => Nat.le_refl _⟩
theorem Conc.trans {xs ys zs : List Nat} (h : Conc xs ys) (g : Conc ys zs) : Conc xs zs := ⟨by rw [g.sum, h.sum], fun c => Nat.le_trans (h.ab c) (g.ab c)⟩
theorem Conc.perm {xs ys zs : List Nat} (h : Conc xs ys) (p : zs.Perm ys) : Conc xs zs := ⟨by rw [p.sum_nat, h.sum], fun c => by rw [ab_perm p]; exact h.ab c⟩
/-- sums over a row with one item changed -/
theorem sum_set (f : Nat → Nat) : ∀ {xs : List Nat} {i : Nat} (h : i < xs.length) (v : Nat), ((xs.set i v).map f).sum + f xs[i] = (xs.map f).sum + f v
  | x :: xs, 0, _, v => by simp; omega
  | x :: xs, i + 1, h, v => by
    have hi : i < xs.length := by simpa using h
    have ih := sum_set f hi v
    simp only [List.set_cons_succ, List.map_cons, List.sum_cons, List.getElem_cons_succ]
    omega
theorem shift_conc {xs : List Nat} {i j : Nat} (hi : i < xs.length) (hj : j < xs.length) (hn : i ≠ j) (hle : xs[i] ≤ xs[j]) (h1 : 1 < xs[i]) : Conc xs ((xs.set i (xs[i] - 1)).set j (xs[j] + 1)) := by
  have key : ∀ f : Nat → Nat, (((xs.set i (xs[i] - 1)).set j (xs[j] + 1)).map f).sum + f xs[j] + f xs[i] = (xs.map f).sum + f (xs[i] - 1) + f (xs[j] + 1) := fun f => by
    have a := sum_set f hi (xs[i] - 1)
    have hj' : j < (xs.set i (xs[i] - 1)).length := by rw [List.length_set]; exact hj
    have b := sum_set f hj' (xs[j] + 1)
    rw [List.getElem_set_ne hn] at b
    omega
  refine ⟨?_, fun c => ?_⟩
  · have := key id
    simp only [List.map_id, id] at this
    omega
  · have := key fun x => x - c
    unfold M85.ab
    omega
/-- all but two items -/
def rest (xs : List Nat) (i j : Nat) : List Nat := ((List.range xs.length).filter fun k => !(k == i || k == j)).map fun k => xs.getD k 0
theorem sum_range_getD (f : Nat → Nat) (xs : List Nat) : ∀ n, n ≤ xs.length → ((List.range n).map fun k => f (xs.getD k 0)).sum = ((xs.take n).map f).sum
  | 0, _ => by simp
  | n + 1, h => by
    have hn : n < xs.length := h
    rw [List.range_succ, List.map_append, List.sum_append, sum_range_getD f xs n (by omega), List.take_succ, List.map_append, List.sum_append]
    congr 1
    rw [List.getElem?_eq_getElem hn]
    simp [List.getD_eq_getElem?_getD, List.getElem?_eq_getElem hn]
theorem sum_rest1 (f : Nat → Nat) (g : Nat → Nat) {i j : Nat} (hn : i ≠ j) : ∀ n, (((List.range n).filter fun k => !(k == i || k == j)).map fun k => f (g k)).sum + (if i < n then f (g i) else 0) + (if j < n then f (g j) else 0) = ((List.range n).map fun k => f (g k)).sum
  | 0 => by simp
  | n + 1 => by
    have ih := sum_rest1 f g hn n
    rw [List.range_succ, List.filter_append, List.map_append, List.sum_append, List.map_append, List.sum_append, ← ih]
    by_cases h1 : n = i
    · subst h1
      simp [show ¬ j < n ↔ n ≤ j by omega]
      by_cases h2 : j < n
      · simp [h2, show j < n + 1 by omega] <;> omega
      · simp [h2, show ¬ j < n + 1 by omega] <;> omega
    · by_cases h2 : n = j
      · subst h2
        by_cases h3 : i < n
        · simp [h3, show i < n + 1 by omega] <;> omega
        · simp [h3, show ¬ i < n + 1 by omega] <;> omega
      · have e1 : (i < n + 1) = (i < n) := by rw [eq_iff_iff]; omega
        have e2 : (j < n + 1) = (j < n) := by rw [eq_iff_iff]; omega
        simp only [e1, e2]
        have : [n].filter (fun k => !(k == i || k == j)) = [n] := by simp [h1, h2]
        rw [this]
        simp
        omega
theorem sum_rest (f : Nat → Nat) {xs : List Nat} {i j : Nat} (hi : i < xs.length) (hj : j < xs.length) (hn : i ≠ j) : ((rest xs i j).map f).sum + f (xs.getD i 0) + f (xs.getD j 0) = (xs.map f).sum := by
  have a := sum_rest1 f (fun k => xs.getD k 0) hn xs.length
  rw [if_pos hi, if_pos hj, sum_range_getD f xs _ (Nat.le_refl _), List.take_length] at a
  unfold rest
  rw [List.map_map]
  exact a
theorem merge_conc {xs : List Nat} {i j : Nat} (hi : i < xs.length) (hj : j < xs.length) (hn : i ≠ j) : Conc xs (rest xs i j ++ [xs.getD i 0 + xs.getD j 0]) := by
  refine ⟨?_, fun c => ?_⟩
  · have := sum_rest id hi hj hn
    simp only [List.map_id, id] at this
    rw [List.sum_append, List.sum_cons, List.sum_nil]
    omega
  · have := sum_rest (fun x => x - c) hi hj hn
    rw [ab_app, ab_cons, ab_nil]
    unfold M85.ab
    omega
theorem rest_mem {xs : List Nat} {i j x : Nat} (h : x ∈ rest xs i j) : x ∈ xs := by
  obtain ⟨k, hk, rfl⟩ := List.mem_map.mp h
  have := List.mem_range.mp (List.mem_filter.mp hk).1
  rw [List.getD_eq_getElem?_getD, List.getElem?_eq_getElem this]
  exact List.getElem_mem _
theorem rest_len {xs : List Nat} {i j : Nat} (hi : i < xs.length) (hj : j < xs.length) (hn : i ≠ j) : (rest xs i j).length + 2 = xs.length := by
  have one : ∀ L : List Nat, (L.map fun _ => 1).sum = L.length := fun L => by
    induction L with
    | nil => rfl
    | cons x L ih => rw [List.map_cons, List.sum_cons, ih, List.length_cons]; omega
  have := sum_rest (fun _ => 1) hi hj hn
  rw [one, one] at this
  omega
end M85


set_option Elab.async false
set_option linter.all false
/-! M79: the least change of pairs with the same two lots. -/
namespace M79
open RatL
def dist (a b : Nat) : Nat := (a - b) + (b - a)
theorem dist_comm (a b : Nat) : dist a b = dist b a := Nat.add_comm ..
def cost (P : List (Nat × Nat)) : Nat := (P.map fun p => dist p.1 p.2).sum
theorem cost_cons (p : Nat × Nat) (P) : cost (p :: P) = dist p.1 p.2 + cost P := by unfold cost; rw [List.map_cons, List.sum_cons]
/-- people below a bound before and not after, and the other way -/
def up (t : Nat) (P : List (Nat × Nat)) : Nat := P.countP fun p => decide (p.1 ≤ t ∧ t < p.2)
def dn (t : Nat) (P : List (Nat × Nat)) : Nat := P.countP fun p => decide (p.2 ≤ t ∧ t < p.1)
def lo1 (t : Nat) (P : List (Nat × Nat)) : Nat := P.countP fun p => decide (p.1 ≤ t)
def lo2 (t : Nat) (P : List (Nat × Nat)) : Nat := P.countP fun p => decide (p.2 ≤ t)
theorem bal (t : Nat) : ∀ P : List (Nat × Nat), up t P + lo2 t P = lo1 t P + dn t P
  | [] => rfl
  | p :: P => by
    have := bal t P
    unfold up dn lo1 lo2 at *
    simp only [List.countP_cons, decide_eq_true_eq]
    split <;> split <;> split <;> split <;> omega
theorem dist_sum (a b : Nat) : ∀ N, dist (min a N) (min b N) = sumN (fun t => (if a ≤ t ∧ t < b then 1 else 0) + (if b ≤ t ∧ t < a then 1 else 0)) N
  | 0 => by simp [dist, sumN]
  | N + 1 => by
    rw [sumN, ← dist_sum a b N]
    unfold dist
    split <;> split <;> omega
theorem sumN_add (f g : Nat → Nat) : ∀ N, sumN (fun t => f t + g t) N = sumN f N + sumN g N
  | 0 => rfl
  | N + 1 => by rw [sumN, sumN, sumN, sumN_add f g N]; omega
theorem sumN_le' {f g : Nat → Nat} (h : ∀ t, f t ≤ g t) : ∀ N, sumN f N ≤ sumN g N
  | 0 => Nat.le_refl _
  | N + 1 => by rw [sumN, sumN]; have := sumN_le' h N; have := h N; omega
theorem sumN_eq {f g : Nat → Nat} (h : ∀ t, f t ≤ g t) : ∀ {N}, sumN f N = sumN g N → ∀ t, t < N → f t = g t
  | 0, _, t, ht => by omega
  | N + 1, e, t, ht => by
    rw [sumN, sumN] at e
    have a := sumN_le' h N
    have b := h N
    by_cases q : t = N
    · subst q; omega
    · exact sumN_eq (N := N) h (by omega) t (by omega)
theorem sumN_zero : ∀ N, sumN (fun _ => 0) N = 0
  | 0 => rfl
  | N + 1 => by rw [sumN, sumN_zero N]
theorem cost_sum {N : Nat} : ∀ {P : List (Nat × Nat)}, (∀ p ∈ P, p.1 ≤ N ∧ p.2 ≤ N) → cost P = sumN (fun t => up t P + dn t P) N
  | [], _ => (sumN_zero N).symm
  | p :: P, h => by
    have ih := cost_sum (N := N) (P := P) fun q hq => h q (List.mem_cons_of_mem _ hq)
    have hp := h p List.mem_cons_self
    have d := dist_sum p.1 p.2 N
    rw [Nat.min_eq_left hp.1, Nat.min_eq_left hp.2] at d
    rw [cost_cons, ih, d, ← sumN_add]
    congr 1
    funext t
    unfold up dn
    simp only [List.countP_cons, decide_eq_true_eq]
    omega
theorem lo1_eq (t : Nat) (P : List (Nat × Nat)) : lo1 t P = (P.map (·.1)).countP fun x => decide (x ≤ t) := by unfold lo1; rw [List.countP_map]; rfl
theorem lo2_eq (t : Nat) (P : List (Nat × Nat)) : lo2 t P = (P.map (·.2)).countP fun x => decide (x ≤ t) := by unfold lo2; rw [List.countP_map]; rfl
/-- in order -/
def Srt (S : List (Nat × Nat)) : Prop := (S.map (·.1)).Pairwise (· ≤ ·) ∧ (S.map (·.2)).Pairwise (· ≤ ·)
theorem srt_one {S : List (Nat × Nat)} (h : Srt S) (t : Nat) : up t S = 0 ∨ dn t S = 0 := by
  unfold up dn
  rw [List.countP_eq_zero, List.countP_eq_zero]
  apply Classical.byContradiction
  intro q
  rw [not_or] at q
  obtain ⟨q1, q2⟩ := q
  simp only [Classical.not_forall, Classical.not_not, decide_eq_true_eq] at q1 q2
  obtain ⟨p, hp, p1, p2⟩ := q1
  obtain ⟨r, hr, r1, r2⟩ := q2
  obtain ⟨i, hi, rfl⟩ := List.mem_iff_getElem.mp hp
  obtain ⟨j, hj, rfl⟩ := List.mem_iff_getElem.mp hr
  have s1 := List.pairwise_iff_getElem.mp h.1
  have s2 := List.pairwise_iff_getElem.mp h.2
  simp only [List.length_map, List.getElem_map] at s1 s2
  rcases Nat.lt_trichotomy i j with e | e | e
  · have := s2 i j hi hj e; omega
  · subst e; omega
  · have := s1 j i hj hi e; omega
section
variable {P S : List (Nat × Nat)} (e1 : (S.map (·.1)).Perm (P.map (·.1))) (e2 : (S.map (·.2)).Perm (P.map (·.2))) (h : Srt S)
include e1 e2 h
theorem turn_le (t : Nat) : up t S + dn t S ≤ up t P + dn t P := by
  have a := bal t P
  have b := bal t S
  have c1 : lo1 t S = lo1 t P := by rw [lo1_eq, lo1_eq]; exact e1.countP_eq _
  have c2 : lo2 t S = lo2 t P := by rw [lo2_eq, lo2_eq]; exact e2.countP_eq _
  have d := srt_one h t
  omega
theorem le_cost {N : Nat} (hN : ∀ p ∈ P, p.1 ≤ N ∧ p.2 ≤ N) (hN2 : ∀ p ∈ S, p.1 ≤ N ∧ p.2 ≤ N) : cost S ≤ cost P := by
  rw [cost_sum hN, cost_sum hN2]
  exact sumN_le' (turn_le e1 e2 h) N
theorem one_way {N : Nat} (hN : ∀ p ∈ P, p.1 ≤ N ∧ p.2 ≤ N) (hN2 : ∀ p ∈ S, p.1 ≤ N ∧ p.2 ≤ N) (hc : cost S ≠ cost P) : ∃ t, up t P ≠ 0 ∧ dn t P ≠ 0 := by
  apply Classical.byContradiction
  intro q
  apply hc
  rw [cost_sum hN, cost_sum hN2]
  congr 1
  funext t
  have a := bal t P
  have b := bal t S
  have c1 : lo1 t S = lo1 t P := by rw [lo1_eq, lo1_eq]; exact e1.countP_eq _
  have c2 : lo2 t S = lo2 t P := by rw [lo2_eq, lo2_eq]; exact e2.countP_eq _
  have d := srt_one h t
  have : up t P = 0 ∨ dn t P = 0 := by
    by_cases u : up t P = 0
    · exact .inl u
    · exact .inr (Classical.byContradiction fun v => q ⟨t, u, v⟩)
  omega
end
/-- two people's after are better exchanged -/
def cr (p q : Nat × Nat) : Bool := decide (dist q.2 p.1 + dist p.2 q.1 < dist p.2 p.1 + dist q.2 q.1)
theorem cr_comm (p q : Nat × Nat) : cr p q = cr q p := by unfold cr; rw [Nat.add_comm (dist q.2 p.1), Nat.add_comm (dist p.2 p.1)]
theorem cross_of {P : List (Nat × Nat)} {t : Nat} (h1 : up t P ≠ 0) (h2 : dn t P ≠ 0) : ∃ i j, ∃ hi : i < P.length, ∃ hj : j < P.length, i < j ∧ cr P[i] P[j] = true := by
  obtain ⟨p, hp, p1⟩ := List.countP_pos_iff.mp (Nat.pos_of_ne_zero h1)
  obtain ⟨q, hq, q1⟩ := List.countP_pos_iff.mp (Nat.pos_of_ne_zero h2)
  simp only [decide_eq_true_eq] at p1 q1
  obtain ⟨i, hi, rfl⟩ := List.mem_iff_getElem.mp hp
  obtain ⟨j, hj, rfl⟩ := List.mem_iff_getElem.mp hq
  have c : cr P[i] P[j] = true := by
    unfold cr dist
    rw [decide_eq_true_eq]
    omega
  rcases Nat.lt_trichotomy i j with e | e | e
  · exact ⟨i, j, hi, hj, e, c⟩
  · subst e; omega
  · exact ⟨j, i, hj, hi, e, by rw [cr_comm]; exact c⟩
/-- the after of two exchanged -/
def swp (P : List (Nat × Nat)) (i j : Nat) : List (Nat × Nat) := (P.set i ((P.getD i (0, 0)).1, (P.getD j (0, 0)).2)).set j ((P.getD j (0, 0)).1, (P.getD i (0, 0)).2)
theorem getD_eq {α : Type} {xs : List α} {i : Nat} {d : α} (h : i < xs.length) : xs.getD i d = xs[i] := by rw [List.getD_eq_getElem?_getD, List.getElem?_eq_getElem h]; rfl
theorem sum_setG {α : Type} (f : α → Nat) : ∀ {xs : List α} {i : Nat} (h : i < xs.length) (v : α), ((xs.set i v).map f).sum + f xs[i] = (xs.map f).sum + f v
  | x :: xs, 0, _, v => by simp only [List.set_cons_zero, List.map_cons, List.sum_cons, List.getElem_cons_zero]; omega
  | x :: xs, i + 1, h, v => by
    have := sum_setG f (xs := xs) (i := i) (by simpa using h) v
    simp only [List.set_cons_succ, List.map_cons, List.sum_cons, List.getElem_cons_succ]
    omega
theorem sum_swp {α : Type} (f : α → Nat) {xs : List α} {i j : Nat} (hi : i < xs.length) (hj : j < xs.length) (ne : i ≠ j) (u v : α) : (((xs.set i u).set j v).map f).sum + f xs[i] + f xs[j] = (xs.map f).sum + f u + f v := by
  have a := sum_setG f hi u
  have b := sum_setG f (xs := xs.set i u) (i := j) (by simpa using hj) v
  rw [List.getElem_set_ne ne] at b
  omega
theorem swp_cost {P : List (Nat × Nat)} {i j : Nat} (hi : i < P.length) (hj : j < P.length) (ne : i ≠ j) (c : cr P[i] P[j] = true) : cost (swp P i j) < cost P := by
  unfold cost swp
  rw [getD_eq hi, getD_eq hj]
  have := sum_swp (fun p : Nat × Nat => dist p.1 p.2) hi hj ne (P[i].1, P[j].2) (P[j].1, P[i].2)
  unfold cr at c
  rw [decide_eq_true_eq, dist_comm P[j].2, dist_comm P[i].2, dist_comm P[i].2 P[i].1, dist_comm P[j].2 P[j].1] at c
  dsimp only at this
  omega
theorem count_sum (x : Nat) (xs : List Nat) : xs.count x = (xs.map fun y => if y = x then 1 else 0).sum := by
  induction xs with
  | nil => rfl
  | cons y ys ih =>
    rw [List.count_cons, ih, List.map_cons, List.sum_cons]
    simp only [beq_iff_eq]
    omega
theorem swap_perm {xs : List Nat} {i j : Nat} (hi : i < xs.length) (hj : j < xs.length) (ne : i ≠ j) : ((xs.set i xs[j]).set j xs[i]).Perm xs := by
  rw [List.perm_iff_count]
  intro x
  rw [count_sum, count_sum]
  have := sum_swp (fun y => if y = x then 1 else 0) hi hj ne xs[j] xs[i]
  omega
theorem swp_fst {P : List (Nat × Nat)} {i j : Nat} (hi : i < P.length) (hj : j < P.length) (ne : i ≠ j) : (swp P i j).map (·.1) = P.map (·.1) := by
  unfold swp
  rw [getD_eq hi, getD_eq hj, List.map_set, List.map_set]
  dsimp only
  have e1 : (P.map (·.1)).set i P[i].1 = P.map (·.1) := by
    have : (P.map (·.1))[i]'(by simpa using hi) = P[i].1 := by simp
    rw [← this, List.set_getElem_self]
  rw [e1]
  have : (P.map (·.1))[j]'(by simpa using hj) = P[j].1 := by simp
  rw [← this, List.set_getElem_self]
theorem swp_snd {P : List (Nat × Nat)} {i j : Nat} (hi : i < P.length) (hj : j < P.length) (ne : i ≠ j) : ((swp P i j).map (·.2)).Perm (P.map (·.2)) := by
  unfold swp
  rw [getD_eq hi, getD_eq hj, List.map_set, List.map_set]
  have := swap_perm (xs := P.map (·.2)) (i := i) (j := j) (by simpa using hi) (by simpa using hj) ne
  simpa using this
end M79


set_option Elab.async false
set_option linter.all false
/-! M79b: all orders of so many numbers; the least change over them. -/
namespace M79
open RatL
/-- rows one longer -/
def nxt (n : Nat) (row : List Nat) : List (List Nat) := ((List.range n).filter fun k => !(decide (k ∈ row))).map fun k => row ++ [k]
def ords (n : Nat) : Nat → List (List Nat)
  | 0 => [[]]
  | t + 1 => (ords n t).flatMap (nxt n)
theorem mem_ords {n : Nat} : ∀ {t : Nat} {o : List Nat}, o ∈ ords n t ↔ o.length = t ∧ o.Nodup ∧ ∀ x ∈ o, x < n
  | 0, o => by
    simp only [ords, List.mem_singleton]
    constructor
    · rintro rfl; exact ⟨rfl, List.nodup_nil, nofun⟩
    · intro h; exact List.length_eq_zero_iff.mp h.1
  | t + 1, o => by
    simp only [ords, List.mem_flatMap, nxt, List.mem_map, List.mem_filter, List.mem_range, Bool.not_eq_true', decide_eq_false_iff_not]
    constructor
    · rintro ⟨row, hr, k, ⟨hk, hn⟩, rfl⟩
      obtain ⟨h1, h2, h3⟩ := mem_ords.mp hr
      refine ⟨by rw [List.length_append, h1]; rfl, ?_, fun x hx => ?_⟩
      · rw [List.nodup_append]
        refine ⟨h2, by simp, fun a ha b hb => ?_⟩
        rw [List.mem_singleton.mp hb]
        intro q
        exact hn (q ▸ ha)
      · rcases List.mem_append.mp hx with hx | hx
        · exact h3 x hx
        · rw [List.mem_singleton.mp hx]; exact hk
    · rintro ⟨h1, h2, h3⟩
      have ne : o ≠ [] := by intro e; rw [e] at h1; simp at h1
      refine ⟨o.dropLast, mem_ords.mpr ⟨by rw [List.length_dropLast, h1]; rfl, ?_, fun x hx => h3 x ((List.dropLast_sublist o).subset hx)⟩, o.getLast ne, ⟨h3 _ (List.getLast_mem ne), ?_⟩, List.dropLast_concat_getLast ne⟩
      · exact h2.sublist (List.dropLast_sublist o)
      · have h2 : (o.dropLast ++ [o.getLast ne]).Nodup := by rw [List.dropLast_concat_getLast]; exact h2
        rw [List.nodup_append] at h2
        intro q
        exact h2.2.2 _ q _ (List.mem_singleton.mpr rfl) rfl
/-- a row of so many different small numbers has all of them -/
theorem full : ∀ {n : Nat} {o : List Nat}, o.length = n → o.Nodup → (∀ x ∈ o, x < n) → o.Perm (List.range n)
  | n, o, h1, h2, h3 => by
    rw [List.perm_iff_count]
    have c1 : ∀ x, o.count x ≤ 1 := fun x => List.nodup_iff_count.mp h2 x
    have tot : ∀ (o : List Nat), (∀ x ∈ o, x < n) → sumN (fun k => o.count k) n = o.length := fun o => by
      induction o with
      | nil => intro _; exact sumN_zero n
      | cons y ys ih =>
        intro hy
        have e : ∀ N, sumN (fun k => (y :: ys).count k) N = sumN (fun k => ys.count k) N + if y < N then 1 else 0 := fun N => by
          induction N with
          | zero => rfl
          | succ N ihN =>
            rw [sumN, sumN, ihN, List.count_cons]
            simp only [beq_iff_eq]
            by_cases q : y = N
            · subst q; simp; omega
            · have : (if y < N + 1 then 1 else 0) = (if y < N then 1 else 0) := by
                by_cases l : y < N
                · rw [if_pos l, if_pos (by omega)]
                · rw [if_neg l, if_neg (by omega)]
              rw [if_neg q, this]; omega
        rw [e n, if_pos (hy y List.mem_cons_self), ih fun x hx => hy x (List.mem_cons_of_mem _ hx), List.length_cons]
    have eq : sumN (fun k => o.count k) n = sumN (fun _ => 1) n := by
      rw [tot o h3, h1]
      have : ∀ N, sumN (fun _ => 1) N = N := fun N => by induction N with | zero => rfl | succ N ih => rw [sumN, ih]
      rw [this]
    have one := sumN_eq c1 eq
    intro x
    by_cases q : x < n
    · rw [one x q]
      have a : (List.range n).count x ≤ 1 := List.nodup_iff_count.mp List.nodup_range x
      have b : 0 < (List.range n).count x := List.count_pos_iff.mpr (List.mem_range.mpr q)
      omega
    · rw [List.count_eq_zero.mpr fun z => q (h3 x z), List.count_eq_zero.mpr fun z => q (List.mem_range.mp z)]
/-- the pairs by an order of the after -/
def ordP (P : List (Nat × Nat)) (o : List Nat) : List (Nat × Nat) := (List.range P.length).map fun i => ((P.getD i (0, 0)).1, (P.getD (o.getD i 0) (0, 0)).2)
theorem range_map_getD {α β : Type} (f : α → β) (d : α) (P : List α) : (List.range P.length).map (fun i => f (P.getD i d)) = P.map f := by
  refine List.ext_getElem? fun i => ?_
  rw [List.getElem?_map, List.getElem?_map]
  by_cases h : i < P.length
  · rw [List.getElem?_range h, List.getElem?_eq_getElem h]
    show some (f (P.getD i d)) = some (f P[i])
    rw [getD_eq h]
  · rw [List.getElem?_eq_none (by simpa using h), List.getElem?_eq_none (by simpa using h)]
    rfl
theorem ordP_fst (P : List (Nat × Nat)) (o : List Nat) : (ordP P o).map (·.1) = P.map (·.1) := by
  unfold ordP
  rw [List.map_map]
  exact range_map_getD (·.1) (0, 0) P
theorem ordP_snd {P : List (Nat × Nat)} {o : List Nat} (h : o.Perm (List.range P.length)) : ((ordP P o).map (·.2)).Perm (P.map (·.2)) := by
  unfold ordP
  rw [List.map_map]
  have hl : o.length = P.length := by have := h.length_eq; simpa using this
  have e : ((List.range P.length).map ((·.2) ∘ fun i => ((P.getD i (0, 0)).1, (P.getD (o.getD i 0) (0, 0)).2))) = o.map fun k => (P.getD k (0, 0)).2 := by
    rw [← hl]
    exact range_map_getD (fun k => (P.getD k (0, 0)).2) 0 o
  rw [e, ← range_map_getD (·.2) (0, 0) P]
  exact h.map _
theorem ordP_len (P : List (Nat × Nat)) (o : List Nat) : (ordP P o).length = P.length := by unfold ordP; simp
/-- the least one of a list -/
theorem least_of {α : Type} (f : α → Nat) : ∀ {L : List α}, L ≠ [] → ∃ a ∈ L, ∀ b ∈ L, f a ≤ f b
  | [], h => absurd rfl h
  | [a], _ => ⟨a, List.mem_cons_self, fun b hb => by rw [List.mem_singleton.mp hb]; exact Nat.le_refl _⟩
  | a :: c :: L, _ => by
    obtain ⟨m, hm, h⟩ := least_of f (L := c :: L) (List.cons_ne_nil _ _)
    by_cases q : f a ≤ f m
    · refine ⟨a, List.mem_cons_self, fun b hb => ?_⟩
      rcases List.mem_cons.mp hb with rfl | hb
      · exact Nat.le_refl _
      · exact Nat.le_trans q (h b hb)
    · refine ⟨m, List.mem_cons_of_mem _ hm, fun b hb => ?_⟩
      rcases List.mem_cons.mp hb with rfl | hb
      · omega
      · exact h b hb
theorem bound (P : List (Nat × Nat)) : ∃ N, ∀ p ∈ P, p.1 ≤ N ∧ p.2 ≤ N := by
  induction P with
  | nil => exact ⟨0, nofun⟩
  | cons q P ih =>
    obtain ⟨N, h⟩ := ih
    refine ⟨N + q.1 + q.2, fun p hp => ?_⟩
    rcases List.mem_cons.mp hp with rfl | hp
    · omega
    · have := h p hp; omega
theorem le_all {P S : List (Nat × Nat)} (e1 : (S.map (·.1)).Perm (P.map (·.1))) (e2 : (S.map (·.2)).Perm (P.map (·.2))) (h : Srt S) : cost S ≤ cost P := by
  obtain ⟨N, hN⟩ := bound (P ++ S)
  exact le_cost e1 e2 h (N := N) (fun p hp => hN p (List.mem_append_left _ hp)) fun p hp => hN p (List.mem_append_right _ hp)
theorem cross_all {P S : List (Nat × Nat)} (e1 : (S.map (·.1)).Perm (P.map (·.1))) (e2 : (S.map (·.2)).Perm (P.map (·.2))) (h : Srt S) (hc : cost S ≠ cost P) : ∃ i j, ∃ hi : i < P.length, ∃ hj : j < P.length, i < j ∧ cr P[i] P[j] = true := by
  obtain ⟨N, hN⟩ := bound (P ++ S)
  obtain ⟨t, h1, h2⟩ := one_way e1 e2 h (N := N) (fun p hp => hN p (List.mem_append_left _ hp)) (fun p hp => hN p (List.mem_append_right _ hp)) hc
  exact cross_of h1 h2
/-- the least change over all orders -/
theorem min_ords {P S : List (Nat × Nat)} (e1 : (S.map (·.1)).Perm (P.map (·.1))) (e2 : (S.map (·.2)).Perm (P.map (·.2))) (h : Srt S) : (∀ o ∈ ords P.length P.length, cost S ≤ cost (ordP P o)) ∧ ∃ o ∈ ords P.length P.length, cost (ordP P o) = cost S := by
  have pm : ∀ o ∈ ords P.length P.length, o.Perm (List.range P.length) := fun o ho => by
    obtain ⟨h1, h2, h3⟩ := mem_ords.mp ho
    exact full h1 h2 h3
  have le : ∀ o ∈ ords P.length P.length, cost S ≤ cost (ordP P o) := fun o ho => le_all (by rw [ordP_fst]; exact e1) (e2.trans (ordP_snd (pm o ho)).symm) h
  refine ⟨le, ?_⟩
  have ne : ords P.length P.length ≠ [] := fun z => by
    have : List.range P.length ∈ ords P.length P.length := mem_ords.mpr ⟨List.length_range, List.nodup_range, fun x hx => List.mem_range.mp hx⟩
    rw [z] at this
    cases this
  obtain ⟨o, ho, least⟩ := least_of (fun o => cost (ordP P o)) ne
  refine ⟨o, ho, Classical.byContradiction fun hc => ?_⟩
  obtain ⟨i, j, hi, hj, lt, c⟩ := cross_all (P := ordP P o) (by rw [ordP_fst]; exact e1) (e2.trans (ordP_snd (pm o ho)).symm) h (fun z => hc z.symm)
  have hl : o.length = P.length := (mem_ords.mp ho).1
  rw [ordP_len] at hi hj
  have oi : i < o.length := by omega
  have oj : j < o.length := by omega
  have ij : i ≠ j := by omega
  have sp := swap_perm oi oj ij
  have ho' : (o.set i o[j]).set j o[i] ∈ ords P.length P.length := by
    obtain ⟨h1, h2, h3⟩ := mem_ords.mp ho
    exact mem_ords.mpr ⟨by rw [List.length_set, List.length_set]; exact h1, sp.nodup_iff.mpr h2, fun x hx => h3 x (sp.mem_iff.mp hx)⟩
  have lo := least _ ho'
  have eS : ordP P ((o.set i o[j]).set j o[i]) = swp (ordP P o) i j := by
    have li : i < (ordP P o).length := by rw [ordP_len]; exact hi
    have lj : j < (ordP P o).length := by rw [ordP_len]; exact hj
    have gt : ∀ k (hk : k < P.length), (ordP P o).getD k (0, 0) = ((P.getD k (0, 0)).1, (P.getD (o.getD k 0) (0, 0)).2) := fun k hk => by
      rw [getD_eq (by rw [ordP_len]; exact hk)]
      unfold ordP
      simp
    have sw : swp (ordP P o) i j = ((ordP P o).set i ((P.getD i (0, 0)).1, (P.getD (o.getD j 0) (0, 0)).2)).set j ((P.getD j (0, 0)).1, (P.getD (o.getD i 0) (0, 0)).2) := by
      unfold swp
      rw [gt i hi, gt j hj]
    rw [sw]
    refine List.ext_getElem (by rw [List.length_set, List.length_set, ordP_len, ordP_len]) fun k h1 h2 => ?_
    rw [ordP_len] at h1
    rw [List.getElem_set, List.getElem_set]
    have l1 : (ordP P ((o.set i o[j]).set j o[i]))[k]'(by rw [ordP_len]; exact h1) = ((P.getD k (0, 0)).1, (P.getD (((o.set i o[j]).set j o[i]).getD k 0) (0, 0)).2) := by unfold ordP; simp
    rw [l1]
    have ko : k < ((o.set i o[j]).set j o[i]).length := by rw [List.length_set, List.length_set]; omega
    rw [getD_eq ko, List.getElem_set, List.getElem_set]
    by_cases q1 : j = k
    · subst q1
      rw [if_pos rfl, if_pos rfl, getD_eq oi]
    · rw [if_neg q1, if_neg q1]
      by_cases q2 : i = k
      · subst q2
        rw [if_pos rfl, if_pos rfl, getD_eq oj]
      · rw [if_neg q2, if_neg q2]
        unfold ordP
        simp only [List.getElem_map, List.getElem_range]
        rw [getD_eq (show k < o.length by omega)]
  have := swp_cost (P := ordP P o) (i := i) (j := j) (by rw [ordP_len]; exact hi) (by rw [ordP_len]; exact hj) ij c
  rw [eS] at lo
  omega
end M79


set_option Elab.async false
set_option linter.all false
set_option maxRecDepth 100000
set_option maxHeartbeats 0
namespace K79
open PySem L2 PyProof.Rows Ev
/-- is_whole -/
def b_is_whole : Sxs := (.cons (.ret (.and (.op (.isI "int") (.cons (.var 0) .nil)) (.one (.not (.op (.isI "bool") (.cons (.var 0) .nil))))))
    .nil)
def f_is_whole : Fn := ⟨"is_whole", ["value"], 1, false, false, b_is_whole⟩
/-- is_income -/
def b_is_income : Sxs := (.cons (.ret (.and (.call 0 (.cons (.var 0) .nil)) (.one (.chain .le .le (.int 1) (.var 0) (.glob "MOST_INCOME")))))
    .nil)
def f_is_income : Fn := ⟨"is_income", ["value"], 1, false, false, b_is_income⟩
/-- is_panel -/
def l_is_panel_0 : Sxs := (.cons (.ite (.or (.not (.op (.isI "tuple") (.cons (.var 1) .nil))) (.or (.op .ne (.cons (.op .len (.cons (.var 1) .nil)) (.cons (.int 2) .nil))) (.or (.not (.call 1 (.cons (.op .idx (.cons (.var 1) (.cons (.int 0) .nil))) .nil))) (.one (.not (.call 1 (.cons (.op .idx (.cons (.var 1) (.cons (.int 1) .nil))) .nil))))))) (.cons (.ret (.bl false))
    .nil) .nil)
    .nil)
def b_is_panel : Sxs := (.cons (.ite (.or (.not (.op (.isI "tuple") (.cons (.var 0) .nil))) (.one (.not (.chain .le .le (.int 1) (.op .len (.cons (.var 0) .nil)) (.glob "MOST_PEOPLE"))))) (.cons (.ret (.bl false))
    .nil) .nil)
    (.cons (.forr (.name 1) (.seq (.var 0)) l_is_panel_0)
    (.cons (.ret (.bl true))
    .nil)))
def f_is_panel : Fn := ⟨"is_panel", ["value", "pair"], 1, false, false, b_is_panel⟩
/-- check_panel -/
def b_check_panel : Sxs := (.cons (.ite (.not (.call 2 (.cons (.var 0) .nil))) (.cons (.raise 0)
    .nil) .nil)
    .nil)
def f_check_panel : Fn := ⟨"check_panel", ["value"], 1, false, false, b_check_panel⟩
/-- both_lots -/
def c_both_lots_0 : Ex := .comp [2, 3] (.tup (.cons (.name 2) (.cons (.name 3) .nil))) (.seq (.var 0)) .nil (.var 3)
theorem oc_both_lots_0 (f : Frm) : ownVar c_both_lots_0 f = none := rfl
def c_both_lots_1 : Ex := .comp [1, 2] (.tup (.cons (.name 1) (.cons (.name 2) .nil))) (.seq (.var 0)) .nil (.var 1)
theorem oc_both_lots_1 (f : Frm) : ownVar c_both_lots_1 f = none := rfl
def b_both_lots : Sxs := (.cons (.ret (.tup (.cons (.op .tuple (.cons (.op .sorted (.cons c_both_lots_1 .nil)) .nil)) (.cons (.op .tuple (.cons (.op .sorted (.cons c_both_lots_0 .nil)) .nil)) .nil))))
    .nil)
def f_both_lots : Fn := ⟨"both_lots", ["panel", "before", "_", "after"], 1, false, false, b_both_lots⟩
/-- lots_of -/
def b_lots_of : Sxs := (.cons (.exp (.call 3 (.cons (.var 0) .nil)))
    (.cons (.ret (.call 4 (.cons (.var 0) .nil)))
    .nil))
def f_lots_of : Fn := ⟨"lots_of", ["panel"], 1, false, false, b_lots_of⟩
/-- changed -/
def c_changed_0 : Ex := .comp [1, 2] (.tup (.cons (.name 1) (.cons (.name 2) .nil))) (.seq (.var 0)) .nil (.op .abs (.cons (.op .sub (.cons (.var 2) (.cons (.var 1) .nil))) .nil))
theorem oc_changed_0 (f : Frm) : ownVar c_changed_0 f = none := rfl
def b_changed : Sxs := (.cons (.ret (.op .sum (.cons c_changed_0 .nil)))
    .nil)
def f_changed : Fn := ⟨"changed", ["panel", "before", "after"], 1, false, false, b_changed⟩
/-- change -/
def b_change : Sxs := (.cons (.exp (.call 3 (.cons (.var 0) .nil)))
    (.cons (.ret (.call 6 (.cons (.var 0) .nil)))
    .nil))
def f_change : Fn := ⟨"change", ["panel"], 1, false, false, b_change⟩
/-- structured -/
def c_structured_0 : Ex := .comp [3, 4] (.tup (.cons (.name 3) (.cons (.name 4) .nil))) (.zip (.var 1) (.var 2)) .nil (.op .abs (.cons (.op .sub (.cons (.var 3) (.cons (.var 4) .nil))) .nil))
theorem oc_structured_0 (f : Frm) : ownVar c_structured_0 f = none := rfl
def b_structured : Sxs := (.cons (.setT (.tup (.cons (.name 1) (.cons (.name 2) .nil))) (.call 4 (.cons (.var 0) .nil)))
    (.cons (.ret (.op .sum (.cons c_structured_0 .nil)))
    .nil))
def f_structured : Fn := ⟨"structured", ["panel", "elder", "later", "a", "b"], 1, false, false, b_structured⟩
/-- structure -/
def b_structure : Sxs := (.cons (.exp (.call 3 (.cons (.var 0) .nil)))
    (.cons (.ret (.call 8 (.cons (.var 0) .nil)))
    .nil))
def f_structure : Fn := ⟨"structure", ["panel"], 1, false, false, b_structure⟩
/-- exchange -/
def b_exchange : Sxs := (.cons (.exp (.call 3 (.cons (.var 0) .nil)))
    (.cons (.ret (.op .sub (.cons (.call 6 (.cons (.var 0) .nil)) (.cons (.call 8 (.cons (.var 0) .nil)) .nil))))
    .nil))
def f_exchange : Fn := ⟨"exchange", ["panel"], 1, false, false, b_exchange⟩
/-- crosses -/
def b_crosses : Sxs := (.cons (.setT (.tup (.cons (.tup (.cons (.name 3) (.cons (.name 4) .nil))) (.cons (.tup (.cons (.name 5) (.cons (.name 6) .nil))) .nil))) (.tup (.cons (.op .idx (.cons (.var 0) (.cons (.var 1) .nil))) (.cons (.op .idx (.cons (.var 0) (.cons (.var 2) .nil))) .nil))))
    (.cons (.ret (.op .lt (.cons (.op .add (.cons (.op .abs (.cons (.op .sub (.cons (.var 6) (.cons (.var 3) .nil))) .nil)) (.cons (.op .abs (.cons (.op .sub (.cons (.var 4) (.cons (.var 5) .nil))) .nil)) .nil))) (.cons (.op .add (.cons (.op .abs (.cons (.op .sub (.cons (.var 4) (.cons (.var 3) .nil))) .nil)) (.cons (.op .abs (.cons (.op .sub (.cons (.var 6) (.cons (.var 5) .nil))) .nil)) .nil))) .nil))))
    .nil))
def f_crosses : Fn := ⟨"crosses", ["panel", "i", "j", "a", "b", "c", "d"], 3, false, false, b_crosses⟩
/-- crossing -/
def l_crossing_0 : Sxs := (.cons (.ite (.call 11 (.cons (.var 0) (.cons (.var 1) (.cons (.var 2) .nil)))) (.cons (.ret (.tup (.cons (.var 1) (.cons (.var 2) .nil))))
    .nil) .nil)
    .nil)
def l_crossing_1 : Sxs := (.cons (.forr (.name 2) (.rng2 (.op .add (.cons (.var 1) (.cons (.int 1) .nil))) (.op .len (.cons (.var 0) .nil))) l_crossing_0)
    .nil)
def b_crossing : Sxs := (.cons (.exp (.call 3 (.cons (.var 0) .nil)))
    (.cons (.forr (.name 1) (.rng1 (.op .len (.cons (.var 0) .nil))) l_crossing_1)
    (.cons (.ret .non)
    .nil)))
def f_crossing : Fn := ⟨"crossing", ["panel", "i", "j"], 1, false, false, b_crossing⟩
/-- is_crossing -/
def c_is_crossing_0 : Ex := .comp [2] (.name 2) (.seq (.var 1)) .nil (.and (.call 0 (.cons (.var 2) .nil)) (.one (.chain .le .lt (.int 0) (.var 2) (.op .len (.cons (.var 0) .nil)))))
theorem oc_is_crossing_0 (f : Frm) : ownVar c_is_crossing_0 f = none := rfl
def b_is_crossing : Sxs := (.cons (.exp (.call 3 (.cons (.var 0) .nil)))
    (.cons (.ite (.or (.not (.op (.isI "tuple") (.cons (.var 1) .nil))) (.one (.op .ne (.cons (.op .len (.cons (.var 1) .nil)) (.cons (.int 2) .nil))))) (.cons (.ret (.bl false))
    .nil) .nil)
    (.cons (.ite (.not (.op .all (.cons c_is_crossing_0 .nil))) (.cons (.ret (.bl false))
    .nil) .nil)
    (.cons (.ret (.call 11 (.cons (.var 0) (.cons (.op .idx (.cons (.var 1) (.cons (.int 0) .nil))) (.cons (.op .idx (.cons (.var 1) (.cons (.int 1) .nil))) .nil)))))
    .nil))))
def f_is_crossing : Fn := ⟨"is_crossing", ["panel", "value", "item"], 2, false, false, b_is_crossing⟩
/-- settled -/
def b_settled : Sxs := (.cons (.setT (.tup (.cons (.name 1) (.cons (.name 2) .nil))) (.call 5 (.cons (.var 0) .nil)))
    (.cons (.ret (.op .tzip (.cons (.var 1) (.cons (.var 2) .nil))))
    .nil))
def f_settled : Fn := ⟨"settled", ["panel", "elder", "later"], 1, false, false, b_settled⟩
/-- _law_draw -/
def l__law_draw_0 : Sxs := (.cons (.set 1 (.op .mod (.cons (.op .toInt (.cons (.op .add (.cons (.op .add (.cons (.op .mul (.cons (.var 1) (.cons (.int 48271) .nil))) (.cons (.op .mod (.cons (.op .abs (.cons (.op .toInt (.cons (.var 2) .nil)) .nil)) (.cons (.int 65521) .nil))) .nil))) (.cons (.int 1) .nil))) .nil)) (.cons (.int 2147483647) .nil))))
    .nil)
def c__law_draw_0 : Ex := .comp [2] (.name 2) (.seq (.var 0)) .nil (.op .abs (.cons (.op .toInt (.cons (.var 2) .nil)) .nil))
theorem oc__law_draw_0 (f : Frm) : ownVar c__law_draw_0 f = none := rfl
def b__law_draw : Sxs := (.cons (.set 1 (.int 7))
    (.cons (.forr (.name 2) (.seq (.var 0)) l__law_draw_0)
    (.cons (.ret (.lst (.cons c__law_draw_0 (.cons (.op .neg (.cons (.int 1) .nil)) (.cons (.int 0) (.cons (.var 1) .nil))))))
    .nil)))
def f__law_draw : Fn := ⟨"_law_draw", ["script", "seed", "cell"], 1, false, true, b__law_draw⟩
/-- _law_take -/
def b__law_take : Sxs := (.cons (.ite (.op .eq (.cons (.op .idx (.cons (.var 0) (.cons (.int 2) .nil))) (.cons (.int 0) .nil))) (.cons (.sto 0 (.int 1) (.op .add (.cons (.op .idx (.cons (.var 0) (.cons (.int 1) .nil))) (.cons (.int 1) .nil))))
    (.cons (.ite (.op .lt (.cons (.op .idx (.cons (.var 0) (.cons (.int 1) .nil))) (.cons (.op .len (.cons (.op .idx (.cons (.var 0) (.cons (.int 0) .nil))) .nil)) .nil))) (.cons (.sto 0 (.int 2) (.op .idx (.cons (.op .idx (.cons (.var 0) (.cons (.int 0) .nil))) (.cons (.op .idx (.cons (.var 0) (.cons (.int 1) .nil))) .nil))))
    .nil) .nil)
    (.cons (.ite (.op .eq (.cons (.op .idx (.cons (.var 0) (.cons (.int 2) .nil))) (.cons (.int 0) .nil))) (.cons (.sto 0 (.int 3) (.op .mod (.cons (.op .toInt (.cons (.op .add (.cons (.op .mul (.cons (.op .idx (.cons (.var 0) (.cons (.int 3) .nil))) (.cons (.int 48271) .nil))) (.cons (.int 11) .nil))) .nil)) (.cons (.int 2147483647) .nil))))
    (.cons (.sto 0 (.int 2) (.op .idx (.cons (.var 0) (.cons (.int 3) .nil))))
    .nil)) .nil)
    .nil))) .nil)
    (.cons (.set 2 (.op .mod (.cons (.op .toInt (.cons (.op .idx (.cons (.var 0) (.cons (.int 2) .nil))) .nil)) (.cons (.var 1) .nil))))
    (.cons (.sto 0 (.int 2) (.op .fdiv (.cons (.op .idx (.cons (.var 0) (.cons (.int 2) .nil))) (.cons (.var 1) .nil))))
    (.cons (.ret (.var 2))
    .nil))))
def f__law_take : Fn := ⟨"_law_take", ["draw", "many", "found"], 2, true, false, b__law_take⟩
/-- _law_says -/
def b__law_says : Sxs := (.cons (.ret (.and (.op (.isI "bool") (.cons (.var 0) .nil)) (.one (.op .eq (.cons (.var 0) (.cons (.var 1) .nil))))))
    .nil)
def f__law_says : Fn := ⟨"_law_says", ["value", "due"], 2, false, false, b__law_says⟩
/-- _law_panel -/
def c__law_panel_0 : Ex := .comp [5] (.name 5) (.rng1 (.op .add (.cons (.int 1) (.cons (.call 16 (.cons (.var 0) (.cons (.var 1) .nil))) .nil)))) .nil (.op .add (.cons (.int 1) (.cons (.call 16 (.cons (.var 0) (.cons (.var 2) .nil))) .nil)))
theorem oc__law_panel_0 (f : Frm) : ownVar c__law_panel_0 f = none := rfl
def c__law_panel_1 : Ex := .comp [6] (.name 6) (.seq (.var 3)) .nil (.ife (.op .gt (.cons (.call 16 (.cons (.var 0) (.cons (.int 3) .nil))) (.cons (.int 0) .nil))) (.op .max2 (.cons (.int 1) (.cons (.op .sub (.cons (.op .add (.cons (.var 6) (.cons (.call 16 (.cons (.var 0) (.cons (.int 5) .nil))) .nil))) (.cons (.int 2) .nil))) .nil))) (.op .add (.cons (.int 1) (.cons (.call 16 (.cons (.var 0) (.cons (.var 2) .nil))) .nil))))
theorem oc__law_panel_1 (f : Frm) : ownVar c__law_panel_1 f = none := rfl
def c__law_panel_2 : Ex := .comp [7, 8] (.tup (.cons (.name 7) (.cons (.name 8) .nil))) (.zip (.var 3) (.var 4)) .nil (.tup (.cons (.var 7) (.cons (.var 8) .nil)))
theorem oc__law_panel_2 (f : Frm) : ownVar c__law_panel_2 f = none := rfl
def b__law_panel : Sxs := (.cons (.set 2 (.op .idx (.cons (.lst (.cons (.int 4) (.cons (.int 12) (.cons (.int 1000) .nil)))) (.cons (.call 16 (.cons (.var 0) (.cons (.int 3) .nil))) .nil))))
    (.cons (.set 3 c__law_panel_0)
    (.cons (.set 4 c__law_panel_1)
    (.cons (.ite (.op .eq (.cons (.call 16 (.cons (.var 0) (.cons (.int 4) .nil))) (.cons (.int 0) .nil))) (.cons (.set 4 (.op .add (.cons (.slice (.var 4) (.cons (.int 1) .nil) .nil) (.cons (.slice (.var 4) .nil (.cons (.int 1) .nil)) .nil))))
    .nil) .nil)
    (.cons (.ret (.op .tuple (.cons c__law_panel_2 .nil)))
    .nil)))))
def f__law_panel : Fn := ⟨"_law_panel", ["draw", "people", "high", "before", "after", "k", "item", "a", "b"], 2, true, false, b__law_panel⟩
/-- _law_odd_panel -/
def b__law_odd_panel : Sxs := (.cons (.set 2 (.lst (.cons .non (.cons (.tup .nil) (.cons (.int 5) (.cons (.op .list (.cons (.var 1) .nil)) (.cons (.op .add (.cons (.var 1) (.cons (.tup (.cons (.tup (.cons (.int 0) (.cons (.int 1) .nil))) .nil)) .nil))) (.cons (.op .add (.cons (.var 1) (.cons (.tup (.cons (.tup (.cons (.int 1) (.cons (.int 1000001) .nil))) .nil)) .nil))) (.cons (.op .add (.cons (.var 1) (.cons (.tup (.cons (.tup (.cons (.int 1) .nil)) .nil)) .nil))) (.cons (.op .add (.cons (.var 1) (.cons (.tup (.cons (.tup (.cons (.int 1) (.cons (.int 2) (.cons (.int 3) .nil)))) .nil)) .nil))) (.cons (.op .idx (.cons (.var 1) (.cons (.int 0) .nil))) .nil)))))))))))
    (.cons (.set 2 (.op .add (.cons (.var 2) (.cons (.lst (.cons (.tup (.cons (.tup (.cons (.bl true) (.cons (.int 1) .nil))) .nil)) (.cons (.tup (.cons (.tup (.cons (.int 1) (.cons .non .nil))) .nil)) (.cons (.op .add (.cons (.slice (.var 1) .nil (.cons (.op .neg (.cons (.int 1) .nil)) .nil)) (.cons (.tup (.cons (.lst (.cons (.int 1) (.cons (.int 2) .nil))) .nil)) .nil))) (.cons (.op .mul (.cons (.tup (.cons (.tup (.cons (.int 1) (.cons (.int 1) .nil))) .nil)) (.cons (.int 41) .nil))) (.cons (.tup (.cons (.tup (.cons (.int 1) (.cons (.str "1") .nil))) .nil)) .nil)))))) .nil))))
    (.cons (.ret (.op .idx (.cons (.var 2) (.cons (.call 16 (.cons (.var 0) (.cons (.int 14) .nil))) .nil))))
    .nil)))
def f__law_odd_panel : Fn := ⟨"_law_odd_panel", ["draw", "panel", "odd"], 2, true, false, b__law_odd_panel⟩
/-- _law_orders -/
def c__law_orders_0 : Ex := .comp [5] (.name 5) (.rng1 (.var 0)) (.cons (.op .notin (.cons (.var 5) (.cons (.var 4) .nil))) .nil) (.op .add (.cons (.var 4) (.cons (.tup (.cons (.var 5) .nil)) .nil)))
theorem oc__law_orders_0 (f : Frm) : ownVar c__law_orders_0 f = none := rfl
def l__law_orders_0 : Sxs := (.cons (.set 3 (.op .add (.cons (.var 3) (.cons c__law_orders_0 .nil))))
    .nil)
def l__law_orders_1 : Sxs := (.cons (.set 3 (.lst .nil))
    (.cons (.forr (.name 4) (.seq (.var 1)) l__law_orders_0)
    (.cons (.set 1 (.var 3))
    .nil)))
def b__law_orders : Sxs := (.cons (.set 1 (.lst (.cons (.tup .nil) .nil)))
    (.cons (.forr (.name 2) (.rng1 (.var 0)) l__law_orders_1)
    (.cons (.ret (.var 1))
    .nil)))
def f__law_orders : Fn := ⟨"_law_orders", ["many", "found", "turn", "longer", "row", "k"], 1, false, false, b__law_orders⟩
/-- _law_change -/
def c__law_change_0 : Ex := .comp [1, 2] (.tup (.cons (.name 1) (.cons (.name 2) .nil))) (.seq (.var 0)) .nil (.op .abs (.cons (.op .sub (.cons (.var 2) (.cons (.var 1) .nil))) .nil))
theorem oc__law_change_0 (f : Frm) : ownVar c__law_change_0 f = none := rfl
def b__law_change : Sxs := (.cons (.ret (.op .sum (.cons c__law_change_0 .nil)))
    .nil)
def f__law_change : Fn := ⟨"_law_change", ["panel", "a", "b"], 1, false, false, b__law_change⟩
/-- _law_crosses -/
def c__law_crosses_0 : Ex := .comp [6] (.name 6) (.seq (.var 1)) .nil (.and (.op (.isI "int") (.cons (.var 6) .nil)) (.and (.not (.op (.isI "bool") (.cons (.var 6) .nil))) (.one (.chain .le .lt (.int 0) (.var 6) (.op .len (.cons (.var 0) .nil))))))
theorem oc__law_crosses_0 (f : Frm) : ownVar c__law_crosses_0 f = none := rfl
def b__law_crosses : Sxs := (.cons (.ite (.or (.not (.op (.isI "tuple") (.cons (.var 1) .nil))) (.or (.op .ne (.cons (.op .len (.cons (.var 1) .nil)) (.cons (.int 2) .nil))) (.one (.not (.op .all (.cons c__law_crosses_0 .nil)))))) (.cons (.ret (.bl false))
    .nil) .nil)
    (.cons (.setT (.tup (.cons (.tup (.cons (.name 2) (.cons (.name 3) .nil))) (.cons (.tup (.cons (.name 4) (.cons (.name 5) .nil))) .nil))) (.tup (.cons (.op .idx (.cons (.var 0) (.cons (.op .idx (.cons (.var 1) (.cons (.int 0) .nil))) .nil))) (.cons (.op .idx (.cons (.var 0) (.cons (.op .idx (.cons (.var 1) (.cons (.int 1) .nil))) .nil))) .nil))))
    (.cons (.ret (.op .lt (.cons (.op .add (.cons (.op .abs (.cons (.op .sub (.cons (.var 2) (.cons (.var 5) .nil))) .nil)) (.cons (.op .abs (.cons (.op .sub (.cons (.var 4) (.cons (.var 3) .nil))) .nil)) .nil))) (.cons (.op .add (.cons (.op .abs (.cons (.op .sub (.cons (.var 2) (.cons (.var 3) .nil))) .nil)) (.cons (.op .abs (.cons (.op .sub (.cons (.var 4) (.cons (.var 5) .nil))) .nil)) .nil))) .nil))))
    .nil)))
def f__law_crosses : Fn := ⟨"_law_crosses", ["panel", "value", "a", "b", "c", "d", "k"], 2, false, false, b__law_crosses⟩
/-- _law_told -/
def b__law_told : Sxs := (.cons (.tryR (.cons (.ite (.op .eq (.cons (.var 0) (.cons (.int 0) .nil))) (.cons (.ret (.call 7 (.cons (.var 1) .nil)))
    .nil) .nil)
    (.cons (.ite (.op .eq (.cons (.var 0) (.cons (.int 1) .nil))) (.cons (.ret (.call 9 (.cons (.var 1) .nil)))
    .nil) .nil)
    (.cons (.ite (.op .eq (.cons (.var 0) (.cons (.int 2) .nil))) (.cons (.ret (.call 10 (.cons (.var 1) .nil)))
    .nil) .nil)
    (.cons (.ret (.ife (.op .eq (.cons (.var 0) (.cons (.int 3) .nil))) (.call 12 (.cons (.var 1) .nil)) (.call 13 (.cons (.var 1) (.cons .non .nil)))))
    .nil)))) 0 "<malformed>")
    .nil)
def f__law_told : Fn := ⟨"_law_told", ["which", "panel"], 2, false, false, b__law_told⟩
/-- law -/
def c_law_0 : Ex := .comp [17, 18] (.tup (.cons (.name 17) (.cons (.name 18) .nil))) (.seq (.var 4)) .nil (.var 17)
theorem oc_law_0 (f : Frm) : ownVar c_law_0 f = none := rfl
def c_law_1 : Ex := .comp [17, 18] (.tup (.cons (.name 17) (.cons (.name 18) .nil))) (.seq (.var 4)) .nil (.var 18)
theorem oc_law_1 (f : Frm) : ownVar c_law_1 f = none := rfl
def c_law_2 : Ex := .comp [17, 18] (.tup (.cons (.name 17) (.cons (.name 18) .nil))) (.zip (.op .sorted (.cons c_law_0 .nil)) (.op .sorted (.cons c_law_1 .nil))) .nil (.op .abs (.cons (.op .sub (.cons (.var 17) (.cons (.var 18) .nil))) .nil))
theorem oc_law_2 (f : Frm) : ownVar c_law_2 f = none := rfl
def c_law_3 : Ex := .comp [14] (.name 14) (.rng2 (.op .add (.cons (.var 9) (.cons (.int 1) .nil))) (.var 5)) (.cons (.call 22 (.cons (.var 4) (.cons (.tup (.cons (.var 9) (.cons (.var 14) .nil))) .nil))) .nil) (.tup (.cons (.var 9) (.cons (.var 14) .nil)))
theorem oc_law_3 (f : Frm) : ownVar c_law_3 f = none := rfl
def s_law_0 : Sx := (.set 8 (.op .add (.cons (.var 8) (.cons c_law_3 .nil))))
def l_law_0 : Sxs := (.cons s_law_0
    .nil)
def c_law_4 : Ex := .comp [19] (.name 19) (.seq (.var 10)) .nil (.op .repr (.cons (.var 19) .nil))
theorem oc_law_4 (f : Frm) : ownVar c_law_4 f = none := rfl
def c_law_5 : Ex := .comp [15] (.name 15) (.rng1 (.int 4)) .nil (.op .repr (.cons (.call 23 (.cons (.var 15) (.cons (.var 4) .nil))) .nil))
theorem oc_law_5 (f : Frm) : ownVar c_law_5 f = none := rfl
def s_law_1 : Sx := (.ret (.bl false))
def c_law_6 : Ex := .comp [9] (.name 9) (.rng1 (.var 5)) .nil (.op .abs (.cons (.op .sub (.cons (.op .idx (.cons (.op .idx (.cons (.var 4) (.cons (.var 9) .nil))) (.cons (.int 0) .nil))) (.cons (.op .idx (.cons (.op .idx (.cons (.var 4) (.cons (.op .idx (.cons (.var 16) (.cons (.var 9) .nil))) .nil))) (.cons (.int 1) .nil))) .nil))) .nil))
theorem oc_law_6 (f : Frm) : ownVar c_law_6 f = none := rfl
def c_law_7 : Ex := .comp [16] (.name 16) (.seq (.call 20 (.cons (.var 5) .nil))) .nil (.op .sum (.cons c_law_6 .nil))
theorem oc_law_7 (f : Frm) : ownVar c_law_7 f = none := rfl
def s_law_2 : Sx := (.ret (.bl false))
def s_law_3 : Sx := (.set 12 c_law_7)
def s_law_4 : Sx := (.ite (.op .ne (.cons (.op .minL (.cons (.var 12) .nil)) (.cons (.var 6) .nil))) (.cons s_law_2
    .nil) .nil)
def s_law_5 : Sx := (.ret (.bl false))
def s_law_6 : Sx := (.setT (.tup (.cons (.name 9) (.cons (.name 14) .nil))) (.call 12 (.cons (.var 4) .nil)))
def s_law_7 : Sx := (.setO 13 (.op .list (.cons (.var 4) .nil)))
def s_law_8 : Sx := (.setT (.tup (.cons (.sub 13 9) (.cons (.sub 13 14) .nil))) (.tup (.cons (.tup (.cons (.op .idx (.cons (.op .idx (.cons (.var 4) (.cons (.var 9) .nil))) (.cons (.int 0) .nil))) (.cons (.op .idx (.cons (.op .idx (.cons (.var 4) (.cons (.var 14) .nil))) (.cons (.int 1) .nil))) .nil))) (.cons (.tup (.cons (.op .idx (.cons (.op .idx (.cons (.var 4) (.cons (.var 14) .nil))) (.cons (.int 0) .nil))) (.cons (.op .idx (.cons (.op .idx (.cons (.var 4) (.cons (.var 9) .nil))) (.cons (.int 1) .nil))) .nil))) .nil))))
def s_law_9 : Sx := (.frz 13)
def s_law_10 : Sx := (.ite (.op .ge (.cons (.call 7 (.cons (.op .tuple (.cons (.var 13) .nil)) .nil)) (.cons (.var 7) .nil))) (.cons s_law_5
    .nil) .nil)
def s_law_11 : Sx := (.ret (.bl false))
def c_law_8 : Ex := .comp [15] (.name 15) (.rng1 (.int 4)) .nil (.tup (.cons (.call 16 (.cons (.var 1) (.cons (.var 5) .nil))) (.cons (.call 16 (.cons (.var 1) (.cons (.var 5) .nil))) .nil)))
theorem oc_law_8 (f : Frm) : ownVar c_law_8 f = none := rfl
def s_law_12 : Sx := (.ret (.bl false))
def s_law_13 : Sx := (.ite (.not (.call 17 (.cons (.call 13 (.cons (.var 4) (.cons (.var 11) .nil))) (.cons (.call 22 (.cons (.var 4) (.cons (.var 11) .nil))) .nil)))) (.cons s_law_12
    .nil) .nil)
def l_law_1 : Sxs := (.cons s_law_13
    .nil)
def s_law_14 : Sx := (.set 4 (.call 18 (.cons (.var 1) (.cons (.int 6) .nil))))
def s_law_15 : Sx := (.set 5 (.op .len (.cons (.var 4) .nil)))
def s_law_16 : Sx := (.set 6 (.op .sum (.cons c_law_2 .nil)))
def s_law_17 : Sx := (.set 7 (.call 21 (.cons (.var 4) .nil)))
def s_law_18 : Sx := (.set 8 (.lst .nil))
def s_law_19 : Sx := (.forr (.name 9) (.rng1 (.var 5)) l_law_0)
def s_law_20 : Sx := (.set 10 (.lst (.cons (.var 7) (.cons (.var 6) (.cons (.op .sub (.cons (.var 7) (.cons (.var 6) .nil))) (.cons (.ife (.op .ne (.cons (.var 8) (.cons (.lst .nil) .nil))) (.op .idx (.cons (.var 8) (.cons (.int 0) .nil))) .non) .nil))))))
def s_law_21 : Sx := (.ite (.or (.op .ne (.cons c_law_5 (.cons c_law_4 .nil))) (.one (.op .ne (.cons (.op .eq (.cons (.var 7) (.cons (.var 6) .nil))) (.cons (.op .eq (.cons (.var 8) (.cons (.lst .nil) .nil))) .nil))))) (.cons s_law_1
    .nil) .nil)
def s_law_22 : Sx := (.ite (.op .le (.cons (.var 5) (.cons (.int 5) .nil))) (.cons s_law_3
    (.cons s_law_4
    .nil)) .nil)
def s_law_23 : Sx := (.ite (.op .ne (.cons (.var 8) (.cons (.lst .nil) .nil))) (.cons s_law_6
    (.cons s_law_7
    (.cons s_law_8
    (.cons s_law_9
    (.cons s_law_10
    .nil))))) .nil)
def s_law_24 : Sx := (.ite (.or (.op .ne (.cons (.call 10 (.cons (.call 14 (.cons (.var 4) .nil)) .nil)) (.cons (.int 0) .nil))) (.one (.op .notN (.cons (.call 12 (.cons (.call 14 (.cons (.var 4) .nil)) .nil)) .nil)))) (.cons s_law_11
    .nil) .nil)
def s_law_25 : Sx := (.forr (.name 11) (.seq (.op .add (.cons (.op .add (.cons (.slice (.var 8) .nil (.cons (.int 2) .nil)) (.cons c_law_8 .nil))) (.cons (.lst (.cons .non (.cons (.tup (.cons (.int 0) .nil)) (.cons (.tup (.cons (.int 0) (.cons (.var 5) .nil))) (.cons (.tup (.cons (.op .neg (.cons (.int 1) .nil)) (.cons (.int 0) .nil))) (.cons (.lst (.cons (.int 0) (.cons (.int 1) .nil))) (.cons (.tup (.cons (.bl true) (.cons (.int 0) .nil))) (.cons (.tup (.cons (.int 0) (.cons (.int 0) (.cons (.int 0) .nil)))) (.cons (.int 5) .nil))))))))) .nil)))) l_law_1)
def l_law_2 : Sxs := (.cons s_law_14
    (.cons s_law_15
    (.cons s_law_16
    (.cons s_law_17
    (.cons s_law_18
    (.cons s_law_19
    (.cons s_law_20
    (.cons s_law_21
    (.cons s_law_22
    (.cons s_law_23
    (.cons s_law_24
    (.cons s_law_25
    .nil))))))))))))
def c_law_9 : Ex := .comp [15] (.name 15) (.rng1 (.int 5)) .nil (.call 23 (.cons (.var 15) (.cons (.var 3) .nil)))
theorem oc_law_9 (f : Frm) : ownVar c_law_9 f = none := rfl
def s_law_26 : Sx := (.setO 1 (.call 15 (.cons (.var 0) .nil)))
def s_law_27 : Sx := (.forr (.name 2) (.rng1 (.int 2)) l_law_2)
def s_law_28 : Sx := (.set 3 (.call 19 (.cons (.var 1) (.cons (.var 4) .nil))))
def s_law_29 : Sx := (.ret (.op .eq (.cons c_law_9 (.cons (.op .mul (.cons (.lst (.cons (.str "<malformed>") .nil)) (.cons (.int 5) .nil))) .nil))))
def b_law : Sxs := (.cons s_law_26
    (.cons s_law_27
    (.cons s_law_28
    (.cons s_law_29
    .nil))))
def f_law : Fn := ⟨"law", ["script", "draw", "turn", "odd", "panel", "n", "least", "whole", "pairs", "i", "dues", "value", "ways", "rows", "j", "k", "order", "a", "b", "due"], 1, false, false, b_law⟩
def fns : List Fn := [f_is_whole, f_is_income, f_is_panel, f_check_panel, f_both_lots, f_lots_of, f_changed, f_change, f_structured, f_structure, f_exchange, f_crosses, f_crossing, f_is_crossing, f_settled, f__law_draw, f__law_take, f__law_says, f__law_panel, f__law_odd_panel, f__law_orders, f__law_change, f__law_crosses, f__law_told, f_law]
def globs : List (String × Dt) := [("MOST_PEOPLE", (.int (40))), ("MOST_INCOME", (.int (1000000)))]
def tab (fuel : Nat) : Tab := ⟨fun g => globs.lookup g, fns, ["Malformed"], fun k => true, fuel⟩
def fu : Nat := 2 ^ 400
abbrev T : Tab := tab fu
@[simp] theorem io_0 : T.ioOf 0 = false := rfl
@[simp] theorem fr_0 : T.frOf 0 = false := rfl
@[simp] theorem io_1 : T.ioOf 1 = false := rfl
@[simp] theorem fr_1 : T.frOf 1 = false := rfl
@[simp] theorem io_2 : T.ioOf 2 = false := rfl
@[simp] theorem fr_2 : T.frOf 2 = false := rfl
@[simp] theorem io_3 : T.ioOf 3 = false := rfl
@[simp] theorem fr_3 : T.frOf 3 = false := rfl
@[simp] theorem io_4 : T.ioOf 4 = false := rfl
@[simp] theorem fr_4 : T.frOf 4 = false := rfl
@[simp] theorem io_5 : T.ioOf 5 = false := rfl
@[simp] theorem fr_5 : T.frOf 5 = false := rfl
@[simp] theorem io_6 : T.ioOf 6 = false := rfl
@[simp] theorem fr_6 : T.frOf 6 = false := rfl
@[simp] theorem io_7 : T.ioOf 7 = false := rfl
@[simp] theorem fr_7 : T.frOf 7 = false := rfl
@[simp] theorem io_8 : T.ioOf 8 = false := rfl
@[simp] theorem fr_8 : T.frOf 8 = false := rfl
@[simp] theorem io_9 : T.ioOf 9 = false := rfl
@[simp] theorem fr_9 : T.frOf 9 = false := rfl
@[simp] theorem io_10 : T.ioOf 10 = false := rfl
@[simp] theorem fr_10 : T.frOf 10 = false := rfl
@[simp] theorem io_11 : T.ioOf 11 = false := rfl
@[simp] theorem fr_11 : T.frOf 11 = false := rfl
@[simp] theorem io_12 : T.ioOf 12 = false := rfl
@[simp] theorem fr_12 : T.frOf 12 = false := rfl
@[simp] theorem io_13 : T.ioOf 13 = false := rfl
@[simp] theorem fr_13 : T.frOf 13 = false := rfl
@[simp] theorem io_14 : T.ioOf 14 = false := rfl
@[simp] theorem fr_14 : T.frOf 14 = false := rfl
@[simp] theorem io_15 : T.ioOf 15 = false := rfl
@[simp] theorem fr_15 : T.frOf 15 = true := rfl
@[simp] theorem io_16 : T.ioOf 16 = true := rfl
@[simp] theorem fr_16 : T.frOf 16 = false := rfl
@[simp] theorem io_17 : T.ioOf 17 = false := rfl
@[simp] theorem fr_17 : T.frOf 17 = false := rfl
@[simp] theorem io_18 : T.ioOf 18 = true := rfl
@[simp] theorem fr_18 : T.frOf 18 = false := rfl
@[simp] theorem io_19 : T.ioOf 19 = true := rfl
@[simp] theorem fr_19 : T.frOf 19 = false := rfl
@[simp] theorem io_20 : T.ioOf 20 = false := rfl
@[simp] theorem fr_20 : T.frOf 20 = false := rfl
@[simp] theorem io_21 : T.ioOf 21 = false := rfl
@[simp] theorem fr_21 : T.frOf 21 = false := rfl
@[simp] theorem io_22 : T.ioOf 22 = false := rfl
@[simp] theorem fr_22 : T.frOf 22 = false := rfl
@[simp] theorem io_23 : T.ioOf 23 = false := rfl
@[simp] theorem fr_23 : T.frOf 23 = false := rfl
@[simp] theorem io_24 : T.ioOf 24 = false := rfl
@[simp] theorem fr_24 : T.frOf 24 = false := rfl
theorem gl_MOST_PEOPLE : T.glob "MOST_PEOPLE" = some ((.int (40))) := rfl
theorem gl_MOST_INCOME : T.glob "MOST_INCOME" = some ((.int (1000000))) := rfl
@[simp] theorem fuel_T : T.fuel = fu := rfl
end K79


set_option Elab.async false
set_option linter.all false
set_option maxRecDepth 100000
set_option maxHeartbeats 4000000
set_option exponentiation.threshold 500
namespace K79
open PySem Ev RatL
def isW : Dt → Bool
  | .int _ => true
  | _ => false
def isNum (v : Dt) (lo hi : Int) : Bool := match v with
  | .int i => decide (lo ≤ i) && decide (i ≤ hi)
  | _ => false
theorem c_is_whole (d : Nat) (v : Dt) (h : isDict v = false) : T.call (d + 1) 0 none [v] = .ok (.bool (isW v)) [] := by
  rw [call_def (fn := f_is_whole) rfl ⟨rfl, rfl, by decide⟩]
  cases v with
  | dict _ => cases h
  | _ => simp [evSs, e_var, e_non, e_bl, e_int, e_str, e_glob, e_op, e_chain, e_and, e_or, e_one, e_not, e_ife, e_tup, e_lst, e_call, s_set, s_setO, s_setT, s_par, s_aug, s_app, s_sto, s_exp, s_ret, s_ite, s_forr, s_whl, s_raise, s_tryR, s_frz, evPs, evO, evI, getV, getO, isOwn, ov_var, ov_non, ov_bl, ov_int, ov_str, ov_glob, ov_op, ov_chain, ov_and, ov_or, ov_one, ov_not, ov_ife, ov_tup, ov_lst, ov_call, ov_slice, ov_comp, resolve, Ev.plain, evOp, asgF, asg, asgs, canSet, canOwn, setAll, isFr, startF, endF, f_is_whole, b_is_whole, isDict, tyOk, isTy, tyName, isW]
/-! ### the greatest common divisor -/
theorem absI (i : Int) : (if i < 0 then -i else i) = (i.natAbs : Int) := by split <;> omega
theorem gcd_loop {W : Wd} {c : Frm → Res (Dt × Frm)} {b : Frm → Flw} (hc : ∀ x y : Nat, c [.val (.int x), .val (.int y)] = .ok (.bool (decide (y ≠ 0)), [.val (.int x), .val (.int y)]))
    (hb : ∀ x y : Nat, y ≠ 0 → b [.val (.int x), .val (.int y)] = .next [.val (.int y), .val (.int ((x % y : Nat) : Int))]) : ∀ (n x y : Nat), y < n → whlLoop c b n [.val (.int x), .val (.int y)] = .next [.val (.int (Nat.gcd x y : Nat)), .val (.int (0 : Nat))]
  | 0, _, _, h => by omega
  | n + 1, x, y, h => by
    rw [whlLoop, hc]
    by_cases h0 : y = 0
    · subst h0
      simp
    · simp only [h0, ne_eq, not_false_eq_true, decide_true]
      rw [hb x y h0]
      dsimp only
      have lt := Nat.mod_lt x (Nat.pos_of_ne_zero h0)
      rw [gcd_loop (W := W) hc hb n y (x % y) (by omega)]
      rw [Nat.gcd_comm x y, Nat.gcd_rec y x, Nat.gcd_comm]
def D2 (p : Int × Int) : Dt := .tuple [.int p.1, .int p.2]
theorem divOk_of {g : Int} (h : 0 < g) (h2 : g.natAbs < fu) : divOk g = true := by
  unfold divOk
  have : g.natAbs.log2 < 400 := (Nat.log2_lt (by omega)).mpr h2
  simp only [decide_eq_true_eq]
  omega
theorem gcd_lt {n m : Int} (hm : 0 < m) (h : m.natAbs < fu) : ((Int.gcd n m : Int)).natAbs < fu := by
  have := Nat.gcd_le_right n.natAbs (show 0 < m.natAbs by omega)
  unfold Int.gcd
  omega
/-! ### sums, products, order -/
def Sm (i : Int) : Prop := i.natAbs < 2 ^ 200
theorem log_sm {i : Int} (h : Sm i) : i.natAbs.log2 < 200 := by
  by_cases e : i.natAbs = 0
  · rw [e]; decide
  · exact (Nat.log2_lt e).mpr h
theorem mulOk_sm {i j : Int} (h : Sm i) (h' : Sm j) : mulOk i j = true := by
  have := log_sm h
  have := log_sm h'
  unfold mulOk
  simp only [decide_eq_true_eq]
  omega
theorem mul_fu {i j : Int} (h : Sm i) (h' : Sm j) : (i * j).natAbs < fu := by
  rw [Int.natAbs_mul]
  have : fu = 2 ^ 200 * 2 ^ 200 := rfl
  rw [this]
  exact Nat.mul_lt_mul'' h h'
end K79


set_option Elab.async false
set_option linter.all false
set_option maxRecDepth 100000
set_option maxHeartbeats 1000000
set_option exponentiation.threshold 500
namespace K79
open PySem Ev RatL
theorem sm_nat {n : Nat} (h : n < 2 ^ 200) : Sm (n : Int) := by unfold Sm; simpa using h
theorem pw {a b : Nat} (h : a ≤ b) : 2 ^ a ≤ 2 ^ b := Nat.pow_le_pow_right (by decide) h
theorem fu_big {n : Nat} (h : n < 2 ^ 60) : n < fu := Nat.lt_of_lt_of_le h (Nat.pow_le_pow_right (by decide) (by decide))
theorem ixOf_nat {n k : Nat} (h : k < n) : ixOf n (k : Int) = some k := ixOf_n h
def noO (s : Slot) : Prop := ∀ vs, s ≠ .own vs
theorem isOwn_no {f : Frm} {i : Nat} {s : Slot} (h : f[i]? = some s) (n : noO s) : isOwn f i = false := by
  unfold isOwn
  rw [h]
  cases s with
  | own vs => exact absurd rfl (n vs)
  | _ => rfl
end K79


set_option Elab.async false
set_option linter.all false
set_option maxRecDepth 100000
set_option maxHeartbeats 1000000
set_option exponentiation.threshold 500
namespace K79
open PySem Ev RatL
def dw (cs : List Nat) (pos : Int) (cur seed : Nat) : List Dt := [.list (cs.map fun (c : Nat) => PyData.int (c : Int)), .int pos, .int (cur : Int), .int (seed : Int)]
def OkW (xs : List Dt) : Prop := ∃ cs pos cur seed, xs = dw cs pos cur seed ∧ -1 ≤ pos ∧ seed < 2147483647
theorem mulOk_seed {s : Nat} (h : s < 2147483647) : mulOk (s : Int) 48271 = true := mulOk_sm (sm_nat (Nat.lt_of_lt_of_le (show s < 2 ^ 31 by omega) (pw (by decide)))) (show Sm 48271 by unfold Sm; decide)
theorem ixOf_pos {n : Nat} {p : Int} (h0 : 0 ≤ p) (h : p < n) : ixOf n p = some p.toNat := by
  unfold ixOf
  rw [if_pos h0, if_pos h]
/-- the two last rows -/
def tk2 : Sxs := (.cons (.set 2 (.op .mod (.cons (.op .toInt (.cons (.op .idx (.cons (.var 0) (.cons (.int 2) .nil))) .nil)) (.cons (.var 1) .nil))))
    (.cons (.sto 0 (.int 2) (.op .fdiv (.cons (.op .idx (.cons (.var 0) (.cons (.int 2) .nil))) (.cons (.var 1) .nil))))
    (.cons (.ret (.var 2))
    .nil)))
theorem take_end {W : Wd} {cs : List Nat} {pos : Int} {cur seed m : Nat} (h0 : W.own0 = true) (hf : W.fresh0 = false) (hm : 0 < m) (hb : m < 2 ^ 60) :
    evSs W tk2 [.own (dw cs pos cur seed), .val (.int (m : Int)), .no] = .ret (.int ((cur % m : Nat) : Int)) [.own (dw cs pos (cur / m) seed), .val (.int (m : Int)), .val (.int ((cur % m : Nat) : Int))] := by
  have dv : divOk (m : Int) = true := divOk_of (by omega) (fu_big (by omega))
  simp [evSs, e_var, e_non, e_bl, e_int, e_str, e_glob, e_op, e_chain, e_and, e_or, e_one, e_not, e_ife, e_tup, e_lst, e_call, s_set, s_setO, s_setT, s_par, s_aug, s_app, s_sto, s_exp, s_ret, s_ite, s_forr, s_whl, s_raise, s_tryR, s_frz, evPs, evO, evI, getV, getO, isOwn, ov_var, ov_non, ov_bl, ov_int, ov_str, ov_glob, ov_op, ov_chain, ov_and, ov_or, ov_one, ov_not, ov_ife, ov_tup, ov_lst, ov_call, ov_slice, ov_comp, resolve, Ev.plain, evOp, asgF, asg, asgs, canSet, canOwn, setAll, isFr, startF, endF, tk2, dw, evIdx, ixOf, evToInt, evInt2, hm, dv, setAt, hf, h0]
theorem i40 : ixOf 4 0 = some 0 := rfl
theorem i41 : ixOf 4 1 = some 1 := rfl
theorem i42 : ixOf 4 2 = some 2 := rfl
theorem i43 : ixOf 4 3 = some 3 := rfl
theorem dw_len (cs : List Nat) (pos : Int) (cur seed : Nat) : (dw cs pos cur seed).length = 4 := rfl
section
variable {W : Wd} {cs : List Nat} {pos : Int} {cur seed : Nat} {M : Slot}
theorem ix0 : evIdx (.list (dw cs pos cur seed)) (.int 0) = some (.list (cs.map fun (c : Nat) => PyData.int (c : Int))) := rfl
theorem ix1 : evIdx (.list (dw cs pos cur seed)) (.int 1) = some (.int pos) := rfl
theorem ix2 : evIdx (.list (dw cs pos cur seed)) (.int 2) = some (.int (cur : Int)) := rfl
theorem ix3 : evIdx (.list (dw cs pos cur seed)) (.int 3) = some (.int (seed : Int)) := rfl
theorem st1 (q : Int) : setAt (dw cs pos cur seed) 1 (.int q) = some (dw cs q cur seed) := rfl
theorem st2 (q : Nat) : setAt (dw cs pos cur seed) 2 (.int (q : Int)) = some (dw cs pos q seed) := rfl
theorem st3 (q : Nat) : setAt (dw cs pos cur seed) 3 (.int (q : Int)) = some (dw cs pos cur q) := rfl
def ta1 : Sx := .sto 0 (.int 1) (.op .add (.cons (.op .idx (.cons (.var 0) (.cons (.int 1) .nil))) (.cons (.int 1) .nil)))
def ta2 : Sx := .ite (.op .lt (.cons (.op .idx (.cons (.var 0) (.cons (.int 1) .nil))) (.cons (.op .len (.cons (.op .idx (.cons (.var 0) (.cons (.int 0) .nil))) .nil)) .nil))) (.cons (.sto 0 (.int 2) (.op .idx (.cons (.op .idx (.cons (.var 0) (.cons (.int 0) .nil))) (.cons (.op .idx (.cons (.var 0) (.cons (.int 1) .nil))) .nil))))
    .nil) .nil
def ta3 : Sx := .ite (.op .eq (.cons (.op .idx (.cons (.var 0) (.cons (.int 2) .nil))) (.cons (.int 0) .nil))) (.cons (.sto 0 (.int 3) (.op .mod (.cons (.op .toInt (.cons (.op .add (.cons (.op .mul (.cons (.op .idx (.cons (.var 0) (.cons (.int 3) .nil))) (.cons (.int 48271) .nil))) (.cons (.int 11) .nil))) .nil)) (.cons (.int 2147483647) .nil))))
    (.cons (.sto 0 (.int 2) (.op .idx (.cons (.var 0) (.cons (.int 3) .nil))))
    .nil)) .nil
theorem a1_eq : evS W ta1 [.own (dw cs pos cur seed), M, .no] = .next [.own (dw cs (pos + 1) cur seed), M, .no] := by
  simp [evSs, e_var, e_non, e_bl, e_int, e_str, e_glob, e_op, e_chain, e_and, e_or, e_one, e_not, e_ife, e_tup, e_lst, e_call, s_set, s_setO, s_setT, s_par, s_aug, s_app, s_sto, s_exp, s_ret, s_ite, s_forr, s_whl, s_raise, s_tryR, s_frz, evPs, evO, evI, getV, getO, isOwn, ov_var, ov_non, ov_bl, ov_int, ov_str, ov_glob, ov_op, ov_chain, ov_and, ov_or, ov_one, ov_not, ov_ife, ov_tup, ov_lst, ov_call, ov_slice, ov_comp, resolve, Ev.plain, evOp, asgF, asg, asgs, canSet, canOwn, setAll, isFr, startF, endF, ta1, ix1, evAdd, st1]
theorem a2_in {p : Nat} (h : p < cs.length) : evS W ta2 [.own (dw cs (p : Int) cur seed), M, .no] = .next [.own (dw cs (p : Int) cs[p] seed), M, .no] := by
  have e : evIdx (.list (cs.map fun (c : Nat) => PyData.int (c : Int))) (.int (p : Int)) = some (.int ((cs[p] : Nat) : Int)) := by
    simp [evIdx, ixOf_nat h, h]
  simp [evSs, e_var, e_non, e_bl, e_int, e_str, e_glob, e_op, e_chain, e_and, e_or, e_one, e_not, e_ife, e_tup, e_lst, e_call, s_set, s_setO, s_setT, s_par, s_aug, s_app, s_sto, s_exp, s_ret, s_ite, s_forr, s_whl, s_raise, s_tryR, s_frz, evPs, evO, evI, getV, getO, isOwn, ov_var, ov_non, ov_bl, ov_int, ov_str, ov_glob, ov_op, ov_chain, ov_and, ov_or, ov_one, ov_not, ov_ife, ov_tup, ov_lst, ov_call, ov_slice, ov_comp, resolve, Ev.plain, evOp, asgF, asg, asgs, canSet, canOwn, setAll, isFr, startF, endF, ta2, ix0, ix1, evLen, evCmp, h, e, st2]
theorem a2_out (h : ¬ pos < (cs.length : Int)) : evS W ta2 [.own (dw cs pos cur seed), M, .no] = .next [.own (dw cs pos cur seed), M, .no] := by
  have hd : decide (pos < (cs.length : Int)) = false := decide_eq_false h
  simp [evSs, e_var, e_non, e_bl, e_int, e_str, e_glob, e_op, e_chain, e_and, e_or, e_one, e_not, e_ife, e_tup, e_lst, e_call, s_set, s_setO, s_setT, s_par, s_aug, s_app, s_sto, s_exp, s_ret, s_ite, s_forr, s_whl, s_raise, s_tryR, s_frz, evPs, evO, evI, getV, getO, isOwn, ov_var, ov_non, ov_bl, ov_int, ov_str, ov_glob, ov_op, ov_chain, ov_and, ov_or, ov_one, ov_not, ov_ife, ov_tup, ov_lst, ov_call, ov_slice, ov_comp, resolve, Ev.plain, evOp, asgF, asg, asgs, canSet, canOwn, setAll, isFr, startF, endF, ta2, ix0, ix1, evLen, evCmp, hd]
theorem a3_no (h : cur ≠ 0) : evS W ta3 [.own (dw cs pos cur seed), M, .no] = .next [.own (dw cs pos cur seed), M, .no] := by
  have z0 : evEq (.int (cur : Int)) (.int 0) = some false := by
    show some ((cur : Int) == 0) = _
    rw [beq_eq_false_iff_ne.mpr (by omega)]
  simp [evSs, e_var, e_non, e_bl, e_int, e_str, e_glob, e_op, e_chain, e_and, e_or, e_one, e_not, e_ife, e_tup, e_lst, e_call, s_set, s_setO, s_setT, s_par, s_aug, s_app, s_sto, s_exp, s_ret, s_ite, s_forr, s_whl, s_raise, s_tryR, s_frz, evPs, evO, evI, getV, getO, isOwn, ov_var, ov_non, ov_bl, ov_int, ov_str, ov_glob, ov_op, ov_chain, ov_and, ov_or, ov_one, ov_not, ov_ife, ov_tup, ov_lst, ov_call, ov_slice, ov_comp, resolve, Ev.plain, evOp, asgF, asg, asgs, canSet, canOwn, setAll, isFr, startF, endF, ta3, ix2, z0]
theorem a3_yes (hs : seed < 2147483647) : evS W ta3 [.own (dw cs pos 0 seed), M, .no] = .next [.own (dw cs pos ((seed * 48271 + 11) % 2147483647) ((seed * 48271 + 11) % 2147483647)), M, .no] := by
  have sd : ((seed : Int) * 48271 + 11) % 2147483647 = (((seed * 48271 + 11) % 2147483647 : Nat) : Int) := by omega
  have ms := mulOk_seed hs
  have z0 : evEq (.int 0) (.int 0) = some true := rfl
  have x2 : evIdx (.list (dw cs pos 0 seed)) (.int 2) = some (.int 0) := rfl
  generalize hq : (seed * 48271 + 11) % 2147483647 = q at *
  have sd2 : evInt2 (fun _ j => decide (0 < j)) (fun i j => i % j) (.int ((seed : Int) * 48271 + 11)) (.int 2147483647) = some (.int (q : Int)) := by
    show (if decide ((0 : Int) < 2147483647) = true then some (PyData.int (((seed : Int) * 48271 + 11) % 2147483647)) else none) = _
    rw [if_pos (by decide), sd]
  simp [evSs, e_var, e_non, e_bl, e_int, e_str, e_glob, e_op, e_chain, e_and, e_or, e_one, e_not, e_ife, e_tup, e_lst, e_call, s_set, s_setO, s_setT, s_par, s_aug, s_app, s_sto, s_exp, s_ret, s_ite, s_forr, s_whl, s_raise, s_tryR, s_frz, evPs, evO, evI, getV, getO, isOwn, ov_var, ov_non, ov_bl, ov_int, ov_str, ov_glob, ov_op, ov_chain, ov_and, ov_or, ov_one, ov_not, ov_ife, ov_tup, ov_lst, ov_call, ov_slice, ov_comp, resolve, Ev.plain, evOp, asgF, asg, asgs, canSet, canOwn, setAll, isFr, startF, endF, ta3, ix3, x2, z0, evMul, ms, evAdd, evToInt, sd2, st2, st3]
end
theorem c_take (d : Nat) {xs : List Dt} (h : OkW xs) (m : Nat) (hm : 0 < m) (hb : m < 2 ^ 60) : ∃ v ys, v < m ∧ OkW ys ∧ T.call (d + 1) 16 (some xs) [.int (m : Int)] = .ok (.int ((v : Nat) : Int)) ys := by
  obtain ⟨cs, pos, cur, seed, rfl, hp, hs⟩ := h
  rw [call_def (fn := f__law_take) rfl ⟨rfl, rfl, by decide⟩]
  have sp : f__law_take.body = .cons (.ite (.op .eq (.cons (.op .idx (.cons (.var 0) (.cons (.int 2) .nil))) (.cons (.int 0) .nil))) (.cons ta1 (.cons ta2 (.cons ta3 .nil))) .nil) tk2 := rfl
  have fr : startF f__law_take.names.length (some (dw cs pos cur seed)) [.int (m : Int)] = [.own (dw cs pos cur seed), .val (.int (m : Int)), .no] := rfl
  rw [sp, fr]
  show ∃ v ys, v < m ∧ OkW ys ∧ endF true (evSs (T.wd (T.call d) true false) _ _) = _
  have fin : ∀ (pos : Int) (cur seed : Nat), -1 ≤ pos → seed < 2147483647 → ∃ v ys, v < m ∧ OkW ys ∧ endF true (evSs (T.wd (T.call d) true false) tk2 [.own (dw cs pos cur seed), .val (.int (m : Int)), .no]) = .ok (.int ((v : Nat) : Int)) ys := fun pos cur seed hp hs => by
    rw [take_end rfl rfl hm hb]
    exact ⟨cur % m, dw cs pos (cur / m) seed, Nat.mod_lt _ hm, ⟨cs, pos, cur / m, seed, rfl, hp, hs⟩, by simp [endF, getO]⟩
  have hcond : evE (T.wd (T.call d) true false) (.op .eq (.cons (.op .idx (.cons (.var 0) (.cons (.int 2) .nil))) (.cons (.int 0) .nil))) [.own (dw cs pos cur seed), .val (.int (m : Int)), .no] = .ok (.bool (decide (cur = 0)), [.own (dw cs pos cur seed), .val (.int (m : Int)), .no]) := by
    have z0 : evEq (.int (cur : Int)) (.int 0) = some (decide (cur = 0)) := by
      show some ((cur : Int) == 0) = _
      by_cases h : cur = 0
      · subst h; rfl
      · rw [beq_eq_false_iff_ne.mpr (by omega), decide_eq_false h]
    simp [evSs, e_var, e_non, e_bl, e_int, e_str, e_glob, e_op, e_chain, e_and, e_or, e_one, e_not, e_ife, e_tup, e_lst, e_call, s_set, s_setO, s_setT, s_par, s_aug, s_app, s_sto, s_exp, s_ret, s_ite, s_forr, s_whl, s_raise, s_tryR, s_frz, evPs, evO, evI, getV, getO, isOwn, ov_var, ov_non, ov_bl, ov_int, ov_str, ov_glob, ov_op, ov_chain, ov_and, ov_or, ov_one, ov_not, ov_ife, ov_tup, ov_lst, ov_call, ov_slice, ov_comp, resolve, Ev.plain, evOp, asgF, asg, asgs, canSet, canOwn, setAll, isFr, startF, endF, ix2, z0]
  rw [evSs, s_ite, hcond]
  by_cases c0 : cur = 0
  · subst c0
    simp only [decide_true, toFlw_ok, evSs, a1_eq]
    by_cases c1 : pos + 1 < (cs.length : Int)
    · obtain ⟨p, hp1⟩ := Int.eq_ofNat_of_zero_le (show 0 ≤ pos + 1 by omega)
      rw [hp1] at c1 ⊢
      have c1 : p < cs.length := by omega
      rw [a2_in c1]
      by_cases c2 : cs[p] = 0
      · simp only [c2, a3_yes hs]
        exact fin _ _ _ (by omega) (Nat.mod_lt _ (by decide))
      · simp only [a3_no c2]
        exact fin _ _ _ (by omega) hs
    · simp only [a2_out c1, a3_yes hs]
      exact fin _ _ _ (by omega) (Nat.mod_lt _ (by decide))
  · simp only [decide_eq_false c0, toFlw_ok, evSs]
    exact fin _ _ _ hp hs
theorem draw_step {W : Wd} {a : Slot} {seed : Nat} {z : Int} (hs : seed < 2147483647) (sd : ((seed : Int) * 48271 + (z.natAbs : Int) % 65521 + 1) % 2147483647 = (((seed * 48271 + z.natAbs % 65521 + 1) % 2147483647 : Nat) : Int)) :
    evSs W l__law_draw_0 [a, .val (.int (seed : Int)), .val (.int z)] = .next [a, .val (.int (((seed * 48271 + z.natAbs % 65521 + 1) % 2147483647 : Nat) : Int)), .val (.int z)] := by
  have ms := mulOk_seed hs
  generalize hq : (((seed * 48271 + z.natAbs % 65521 + 1) % 2147483647 : Nat) : Int) = q at *
  simp (config := { maxSteps := 2000000 }) [evSs, e_var, e_non, e_bl, e_int, e_str, e_glob, e_op, e_chain, e_and, e_or, e_one, e_not, e_ife, e_tup, e_lst, e_call, s_set, s_setO, s_setT, s_par, s_aug, s_app, s_sto, s_exp, s_ret, s_ite, s_forr, s_whl, s_raise, s_tryR, s_frz, evPs, evO, evI, getV, getO, isOwn, ov_var, ov_non, ov_bl, ov_int, ov_str, ov_glob, ov_op, ov_chain, ov_and, ov_or, ov_one, ov_not, ov_ife, ov_tup, ov_lst, ov_call, ov_slice, ov_comp, resolve, Ev.plain, evOp, asgF, asg, asgs, canSet, canOwn, setAll, isFr, startF, endF, l__law_draw_0, evMul, ms, evToInt, evInt1, absI, evInt2, evAdd, sd]
theorem c_draw (d : Nat) (ns : List Int) : ∃ ys, OkW ys ∧ T.call (d + 1) 15 none [.list (ns.map PyData.int)] = .ok (.list ys) [] := by
  rw [call_def (fn := f__law_draw) rfl ⟨rfl, rfl, by decide⟩]
  obtain ⟨f', e, seed, x, hs, hx, ef⟩ := for_list (tg := .name 2) (g := PyData.int) (body := evSs (T.wd (T.call d) false true) l__law_draw_0) (I := fun _ f => ∃ (seed : Nat) (x : Slot), seed < 2147483647 ∧ noO x ∧ f = [.val (.list (ns.map PyData.int)), .val (.int (seed : Int)), x]) (xs := ns)
    (f := [.val (.list (ns.map PyData.int)), .val (.int 7), .no]) (by
      rintro z zs f ⟨seed, x, hs, hx, rfl⟩
      refine ⟨[.val (.list (ns.map PyData.int)), .val (.int (seed : Int)), .val (.int z)], ?_, ?_⟩
      · rw [asg, isOwn_no (s := x) rfl hx]
        simp
      · have sd : ((seed : Int) * 48271 + (z.natAbs : Int) % 65521 + 1) % 2147483647 = (((seed * 48271 + z.natAbs % 65521 + 1) % 2147483647 : Nat) : Int) := by omega
        refine ⟨_, draw_step hs sd, _, .val (.int z), Nat.mod_lt _ (by decide), fun _ => nofun, rfl⟩) ⟨7, .no, by decide, fun _ => nofun, rfl⟩
  subst ef
  have hc : evE (T.wd (T.call d) false true) c__law_draw_0 [.val (.list (ns.map PyData.int)), .val (.int (seed : Int)), x] = .ok (.list ((ns.map Int.natAbs).map fun (c : Nat) => PyData.int (c : Int)), [.val (.list (ns.map PyData.int)), .val (.int (seed : Int)), x]) := by
    unfold c__law_draw_0
    rw [comp_map (items := ns.map PyData.int) (F := [.val (.list (ns.map PyData.int)), .val (.int (seed : Int)), x]) (fun y => match y with | .int z => .int (z.natAbs : Int) | _ => .none) ?_ (by simp) (isOwn_no (s := x) rfl hx) ?_]
    · rw [List.map_map, List.map_map]
      congr 3
    · simp [evSs, e_var, e_non, e_bl, e_int, e_str, e_glob, e_op, e_chain, e_and, e_or, e_one, e_not, e_ife, e_tup, e_lst, e_call, s_set, s_setO, s_setT, s_par, s_aug, s_app, s_sto, s_exp, s_ret, s_ite, s_forr, s_whl, s_raise, s_tryR, s_frz, evPs, evO, evI, getV, getO, isOwn, ov_var, ov_non, ov_bl, ov_int, ov_str, ov_glob, ov_op, ov_chain, ov_and, ov_or, ov_one, ov_not, ov_ife, ov_tup, ov_lst, ov_call, ov_slice, ov_comp, resolve, Ev.plain, evOp, asgF, asg, asgs, canSet, canOwn, setAll, isFr, startF, endF, seqOf]
    · intro y hy
      obtain ⟨z, _, rfl⟩ := List.mem_map.mp hy
      simp [evSs, e_var, e_non, e_bl, e_int, e_str, e_glob, e_op, e_chain, e_and, e_or, e_one, e_not, e_ife, e_tup, e_lst, e_call, s_set, s_setO, s_setT, s_par, s_aug, s_app, s_sto, s_exp, s_ret, s_ite, s_forr, s_whl, s_raise, s_tryR, s_frz, evPs, evO, evI, getV, getO, isOwn, ov_var, ov_non, ov_bl, ov_int, ov_str, ov_glob, ov_op, ov_chain, ov_and, ov_or, ov_one, ov_not, ov_ife, ov_tup, ov_lst, ov_call, ov_slice, ov_comp, resolve, Ev.plain, evOp, asgF, asg, asgs, canSet, canOwn, setAll, isFr, startF, endF, evToInt, evInt1, absI]
  refine ⟨dw (ns.map Int.natAbs) (-1) 0 seed, ⟨_, _, _, _, rfl, by omega, hs⟩, ?_⟩
  simp [evSs, e_var, e_non, e_bl, e_int, e_str, e_glob, e_op, e_chain, e_and, e_or, e_one, e_not, e_ife, e_tup, e_lst, e_call, s_set, s_setO, s_setT, s_par, s_aug, s_app, s_sto, s_exp, s_ret, s_ite, s_forr, s_whl, s_raise, s_tryR, s_frz, evPs, evO, evI, getV, getO, isOwn, ov_var, ov_non, ov_bl, ov_int, ov_str, ov_glob, ov_op, ov_chain, ov_and, ov_or, ov_one, ov_not, ov_ife, ov_tup, ov_lst, ov_call, ov_slice, ov_comp, resolve, Ev.plain, evOp, asgF, asg, asgs, canSet, canOwn, setAll, isFr, startF, endF, f__law_draw, b__law_draw, seqOf, e, hc, oc__law_draw_0, evInt1, dw]
end K79


set_option Elab.async false
set_option linter.all false
set_option maxRecDepth 100000
set_option maxHeartbeats 1000000
set_option exponentiation.threshold 500
namespace K79
open PySem Ev RatL M79
def isIncD : Dt → Bool
  | .int i => decide (1 ≤ i) && decide (i ≤ 1000000)
  | _ => false
theorem c_is_income (d : Nat) (v : Dt) (h : isDict v = false) : T.call (d + 2) 1 none [v] = .ok (.bool (isIncD v)) [] := by
  rw [call_def (fn := f_is_income) rfl ⟨rfl, rfl, by decide⟩]
  have w := c_is_whole d v h
  cases v with
  | int i => by_cases h1 : 1 ≤ i <;> simp [evSs, e_var, e_non, e_bl, e_int, e_str, e_glob, e_op, e_chain, e_and, e_or, e_one, e_not, e_ife, e_tup, e_lst, e_call, s_set, s_setO, s_setT, s_par, s_aug, s_app, s_sto, s_exp, s_ret, s_ite, s_forr, s_whl, s_raise, s_tryR, s_frz, e_slice, evPs, evO, evI, gV0, gVs, gO0, gOs, iO0, iOs, sK0, sKs, canSet_ok, canOwn_ok, inF0, inFs, asg_name, setAll_cons, setAll_nil, asg_tup, asgs_nil, asgs_cons, ov_var, ov_non, ov_bl, ov_int, ov_str, ov_glob, ov_op, ov_chain, ov_and, ov_or, ov_one, ov_not, ov_ife, ov_tup, ov_lst, ov_call, ov_slice, ov_comp, resolve, Ev.plain, evOp, asgF, isFr, startF, endF, f_is_income, b_is_income, w, isW, gl_MOST_INCOME, evCmp, isIncD, h1]
  | dict _ => cases h
  | _ => simp [evSs, e_var, e_non, e_bl, e_int, e_str, e_glob, e_op, e_chain, e_and, e_or, e_one, e_not, e_ife, e_tup, e_lst, e_call, s_set, s_setO, s_setT, s_par, s_aug, s_app, s_sto, s_exp, s_ret, s_ite, s_forr, s_whl, s_raise, s_tryR, s_frz, e_slice, evPs, evO, evI, gV0, gVs, gO0, gOs, iO0, iOs, sK0, sKs, canSet_ok, canOwn_ok, inF0, inFs, asg_name, setAll_cons, setAll_nil, asg_tup, asgs_nil, asgs_cons, ov_var, ov_non, ov_bl, ov_int, ov_str, ov_glob, ov_op, ov_chain, ov_and, ov_or, ov_one, ov_not, ov_ife, ov_tup, ov_lst, ov_call, ov_slice, ov_comp, resolve, Ev.plain, evOp, asgF, isFr, startF, endF, f_is_income, b_is_income, w, isW, isIncD]
/-! ### panels -/
def pairOk : Dt → Bool
  | .tuple [x, y] => isIncD x && isIncD y
  | _ => false
def isPan : Dt → Bool
  | .tuple xs => decide (1 ≤ xs.length) && decide (xs.length ≤ 40) && xs.all pairOk
  | _ => false
/-- no dict, no dict right inside -/
def okE : Dt → Bool
  | .tuple ys => ys.all fun y => !isDict y
  | .dict _ => false
  | _ => true
def okV : Dt → Bool
  | .tuple xs => xs.all okE
  | .dict _ => false
  | _ => true
theorem pan_turn (d : Nat) {v x : Dt} (h : okE x = true) : evSs (T.wd (T.call (d + 2)) false false) l_is_panel_0 [.val v, .val x] = if pairOk x then .next [.val v, .val x] else .ret (.bool false) [.val v, .val x] := by
  cases x with
  | dict _ => cases h
  | tuple xs =>
    match xs, h with
    | [], _ => simp [evSs, e_var, e_non, e_bl, e_int, e_str, e_glob, e_op, e_chain, e_and, e_or, e_one, e_not, e_ife, e_tup, e_lst, e_call, s_set, s_setO, s_setT, s_par, s_aug, s_app, s_sto, s_exp, s_ret, s_ite, s_forr, s_whl, s_raise, s_tryR, s_frz, e_slice, evPs, evO, evI, gV0, gVs, gO0, gOs, iO0, iOs, sK0, sKs, canSet_ok, canOwn_ok, inF0, inFs, asg_name, setAll_cons, setAll_nil, asg_tup, asgs_nil, asgs_cons, ov_var, ov_non, ov_bl, ov_int, ov_str, ov_glob, ov_op, ov_chain, ov_and, ov_or, ov_one, ov_not, ov_ife, ov_tup, ov_lst, ov_call, ov_slice, ov_comp, resolve, Ev.plain, evOp, asgF, isFr, startF, endF, l_is_panel_0, isDict, tyOk, isTy, tyName, pairOk, evLen, evEq_int]
    | [a], _ => simp [evSs, e_var, e_non, e_bl, e_int, e_str, e_glob, e_op, e_chain, e_and, e_or, e_one, e_not, e_ife, e_tup, e_lst, e_call, s_set, s_setO, s_setT, s_par, s_aug, s_app, s_sto, s_exp, s_ret, s_ite, s_forr, s_whl, s_raise, s_tryR, s_frz, e_slice, evPs, evO, evI, gV0, gVs, gO0, gOs, iO0, iOs, sK0, sKs, canSet_ok, canOwn_ok, inF0, inFs, asg_name, setAll_cons, setAll_nil, asg_tup, asgs_nil, asgs_cons, ov_var, ov_non, ov_bl, ov_int, ov_str, ov_glob, ov_op, ov_chain, ov_and, ov_or, ov_one, ov_not, ov_ife, ov_tup, ov_lst, ov_call, ov_slice, ov_comp, resolve, Ev.plain, evOp, asgF, isFr, startF, endF, l_is_panel_0, isDict, tyOk, isTy, tyName, pairOk, evLen, evEq_int]
    | [a, b], h =>
      have h : (!isDict a && (!isDict b && true)) = true := h
      simp only [Bool.and_eq_true, Bool.not_eq_true', Bool.and_true] at h
      have c1 := c_is_income d a h.1
      have c2 := c_is_income d b h.2
      have i0 : evIdx (.tuple [a, b]) (.int 0) = some a := rfl
      have i1 : evIdx (.tuple [a, b]) (.int 1) = some b := rfl
      cases q1 : isIncD a <;> cases q2 : isIncD b <;> (rw [q1] at c1; rw [q2] at c2; simp [evSs, e_var, e_non, e_bl, e_int, e_str, e_glob, e_op, e_chain, e_and, e_or, e_one, e_not, e_ife, e_tup, e_lst, e_call, s_set, s_setO, s_setT, s_par, s_aug, s_app, s_sto, s_exp, s_ret, s_ite, s_forr, s_whl, s_raise, s_tryR, s_frz, e_slice, evPs, evO, evI, gV0, gVs, gO0, gOs, iO0, iOs, sK0, sKs, canSet_ok, canOwn_ok, inF0, inFs, asg_name, setAll_cons, setAll_nil, asg_tup, asgs_nil, asgs_cons, ov_var, ov_non, ov_bl, ov_int, ov_str, ov_glob, ov_op, ov_chain, ov_and, ov_or, ov_one, ov_not, ov_ife, ov_tup, ov_lst, ov_call, ov_slice, ov_comp, resolve, Ev.plain, evOp, asgF, isFr, startF, endF, l_is_panel_0, isDict, tyOk, isTy, tyName, pairOk, evLen, evEq_int, i0, i1, c1, c2, q1, q2])
    | a :: b :: c :: r, _ =>
      have n : decide (((a :: b :: c :: r).length : Int) = 2) = false := decide_eq_false (by simp only [List.length_cons]; omega)
      have n : evEq (.int (((a :: b :: c :: r).length : Nat) : Int)) (.int 2) = some false := by rw [evEq_int, n]
      have l : evLen (.tuple (a :: b :: c :: r)) = some (.int (((a :: b :: c :: r).length : Nat) : Int)) := rfl
      generalize (((a :: b :: c :: r).length : Nat) : Int) = k at *
      simp [evSs, e_var, e_non, e_bl, e_int, e_str, e_glob, e_op, e_chain, e_and, e_or, e_one, e_not, e_ife, e_tup, e_lst, e_call, s_set, s_setO, s_setT, s_par, s_aug, s_app, s_sto, s_exp, s_ret, s_ite, s_forr, s_whl, s_raise, s_tryR, s_frz, e_slice, evPs, evO, evI, gV0, gVs, gO0, gOs, iO0, iOs, sK0, sKs, canSet_ok, canOwn_ok, inF0, inFs, asg_name, setAll_cons, setAll_nil, asg_tup, asgs_nil, asgs_cons, ov_var, ov_non, ov_bl, ov_int, ov_str, ov_glob, ov_op, ov_chain, ov_and, ov_or, ov_one, ov_not, ov_ife, ov_tup, ov_lst, ov_call, ov_slice, ov_comp, resolve, Ev.plain, evOp, asgF, isFr, startF, endF, l_is_panel_0, isDict, tyOk, isTy, tyName, pairOk, l, n]
  | _ => simp [evSs, e_var, e_non, e_bl, e_int, e_str, e_glob, e_op, e_chain, e_and, e_or, e_one, e_not, e_ife, e_tup, e_lst, e_call, s_set, s_setO, s_setT, s_par, s_aug, s_app, s_sto, s_exp, s_ret, s_ite, s_forr, s_whl, s_raise, s_tryR, s_frz, e_slice, evPs, evO, evI, gV0, gVs, gO0, gOs, iO0, iOs, sK0, sKs, canSet_ok, canOwn_ok, inF0, inFs, asg_name, setAll_cons, setAll_nil, asg_tup, asgs_nil, asgs_cons, ov_var, ov_non, ov_bl, ov_int, ov_str, ov_glob, ov_op, ov_chain, ov_and, ov_or, ov_one, ov_not, ov_ife, ov_tup, ov_lst, ov_call, ov_slice, ov_comp, resolve, Ev.plain, evOp, asgF, isFr, startF, endF, l_is_panel_0, isDict, tyOk, isTy, tyName, pairOk]
theorem c_is_panel (d : Nat) (v : Dt) (h : okV v = true) : T.call (d + 3) 2 none [v] = .ok (.bool (isPan v)) [] := by
  rw [call_def (fn := f_is_panel) rfl ⟨rfl, rfl, by decide⟩]
  cases v with
  | tuple xs =>
    have ln : evLen (.tuple xs) = some (.int (xs.length : Int)) := rfl
    by_cases h1 : 1 ≤ xs.length
    · have h1' : (1 : Int) ≤ (xs.length : Int) := by omega
      by_cases h2 : xs.length ≤ 40
      · have h2' : (xs.length : Int) ≤ 40 := by omega
        have ff := for_find (tg := .name 1) (body := evSs (T.wd (T.call (d + 2)) false false) l_is_panel_0) (g := fun x : Dt => x) (fr := fun s => [.val (.tuple xs), s]) (p := fun x => !pairOk x) (r := fun _ => .bool false) (xs := xs)
          (fun s x hs => by rw [asg_name]; simp [sKs, sK0, hs])
          (fun x hx hp => by
            have := pan_turn d (v := .tuple xs) (List.all_eq_true.mp h x hx)
            rw [this, if_pos (by simpa using hp)])
          (fun x hx hp => by
            have := pan_turn d (v := .tuple xs) (List.all_eq_true.mp h x hx)
            rw [this, if_neg (by simpa using hp)]
            exact ⟨_, rfl⟩) .no rfl
        rw [List.map_id'] at ff
        cases hf : xs.find? fun x => !pairOk x with
        | none =>
          obtain ⟨s', hs', e⟩ := ff.2 hf
          have al : xs.all pairOk = true := by
            rw [List.all_eq_true]
            intro x hx
            have := List.find?_eq_none.mp hf x hx
            simpa using this
          simp [evSs, e_var, e_non, e_bl, e_int, e_str, e_glob, e_op, e_chain, e_and, e_or, e_one, e_not, e_ife, e_tup, e_lst, e_call, s_set, s_setO, s_setT, s_par, s_aug, s_app, s_sto, s_exp, s_ret, s_ite, s_forr, s_whl, s_raise, s_tryR, s_frz, e_slice, evPs, evO, evI, gV0, gVs, gO0, gOs, iO0, iOs, sK0, sKs, canSet_ok, canOwn_ok, inF0, inFs, asg_name, setAll_cons, setAll_nil, asg_tup, asgs_nil, asgs_cons, ov_var, ov_non, ov_bl, ov_int, ov_str, ov_glob, ov_op, ov_chain, ov_and, ov_or, ov_one, ov_not, ov_ife, ov_tup, ov_lst, ov_call, ov_slice, ov_comp, resolve, Ev.plain, evOp, asgF, isFr, startF, endF, f_is_panel, b_is_panel, isDict, tyOk, isTy, tyName, ln, evCmp, gl_MOST_PEOPLE, h1', h2', h1, h2, seqOf, e, isPan, al]
        | some x =>
          obtain ⟨f, e⟩ := ff.1 x hf
          have al : xs.all pairOk = false := by
            rw [List.all_eq_false]
            exact ⟨x, List.mem_of_find?_eq_some hf, by simpa using List.find?_some hf⟩
          simp [evSs, e_var, e_non, e_bl, e_int, e_str, e_glob, e_op, e_chain, e_and, e_or, e_one, e_not, e_ife, e_tup, e_lst, e_call, s_set, s_setO, s_setT, s_par, s_aug, s_app, s_sto, s_exp, s_ret, s_ite, s_forr, s_whl, s_raise, s_tryR, s_frz, e_slice, evPs, evO, evI, gV0, gVs, gO0, gOs, iO0, iOs, sK0, sKs, canSet_ok, canOwn_ok, inF0, inFs, asg_name, setAll_cons, setAll_nil, asg_tup, asgs_nil, asgs_cons, ov_var, ov_non, ov_bl, ov_int, ov_str, ov_glob, ov_op, ov_chain, ov_and, ov_or, ov_one, ov_not, ov_ife, ov_tup, ov_lst, ov_call, ov_slice, ov_comp, resolve, Ev.plain, evOp, asgF, isFr, startF, endF, f_is_panel, b_is_panel, isDict, tyOk, isTy, tyName, ln, evCmp, gl_MOST_PEOPLE, h1', h2', h1, h2, seqOf, e, isPan, al]
      · have h2' : ¬ (xs.length : Int) ≤ 40 := by omega
        simp [evSs, e_var, e_non, e_bl, e_int, e_str, e_glob, e_op, e_chain, e_and, e_or, e_one, e_not, e_ife, e_tup, e_lst, e_call, s_set, s_setO, s_setT, s_par, s_aug, s_app, s_sto, s_exp, s_ret, s_ite, s_forr, s_whl, s_raise, s_tryR, s_frz, e_slice, evPs, evO, evI, gV0, gVs, gO0, gOs, iO0, iOs, sK0, sKs, canSet_ok, canOwn_ok, inF0, inFs, asg_name, setAll_cons, setAll_nil, asg_tup, asgs_nil, asgs_cons, ov_var, ov_non, ov_bl, ov_int, ov_str, ov_glob, ov_op, ov_chain, ov_and, ov_or, ov_one, ov_not, ov_ife, ov_tup, ov_lst, ov_call, ov_slice, ov_comp, resolve, Ev.plain, evOp, asgF, isFr, startF, endF, f_is_panel, b_is_panel, isDict, tyOk, isTy, tyName, ln, evCmp, gl_MOST_PEOPLE, h1', h2', h2, isPan]
    · have e0 : xs = [] := by cases xs with | nil => rfl | cons _ _ => simp at h1
      subst e0
      simp [evSs, e_var, e_non, e_bl, e_int, e_str, e_glob, e_op, e_chain, e_and, e_or, e_one, e_not, e_ife, e_tup, e_lst, e_call, s_set, s_setO, s_setT, s_par, s_aug, s_app, s_sto, s_exp, s_ret, s_ite, s_forr, s_whl, s_raise, s_tryR, s_frz, e_slice, evPs, evO, evI, gV0, gVs, gO0, gOs, iO0, iOs, sK0, sKs, canSet_ok, canOwn_ok, inF0, inFs, asg_name, setAll_cons, setAll_nil, asg_tup, asgs_nil, asgs_cons, ov_var, ov_non, ov_bl, ov_int, ov_str, ov_glob, ov_op, ov_chain, ov_and, ov_or, ov_one, ov_not, ov_ife, ov_tup, ov_lst, ov_call, ov_slice, ov_comp, resolve, Ev.plain, evOp, asgF, isFr, startF, endF, f_is_panel, b_is_panel, isDict, tyOk, isTy, tyName, ln, evCmp, gl_MOST_PEOPLE, isPan]
  | dict _ => cases h
  | _ => simp [evSs, e_var, e_non, e_bl, e_int, e_str, e_glob, e_op, e_chain, e_and, e_or, e_one, e_not, e_ife, e_tup, e_lst, e_call, s_set, s_setO, s_setT, s_par, s_aug, s_app, s_sto, s_exp, s_ret, s_ite, s_forr, s_whl, s_raise, s_tryR, s_frz, e_slice, evPs, evO, evI, gV0, gVs, gO0, gOs, iO0, iOs, sK0, sKs, canSet_ok, canOwn_ok, inF0, inFs, asg_name, setAll_cons, setAll_nil, asg_tup, asgs_nil, asgs_cons, ov_var, ov_non, ov_bl, ov_int, ov_str, ov_glob, ov_op, ov_chain, ov_and, ov_or, ov_one, ov_not, ov_ife, ov_tup, ov_lst, ov_call, ov_slice, ov_comp, resolve, Ev.plain, evOp, asgF, isFr, startF, endF, f_is_panel, b_is_panel, isDict, tyOk, isTy, tyName, isPan]
theorem c_check (d : Nat) (v : Dt) (h : okV v = true) : T.call (d + 4) 3 none [v] = if isPan v then .ok .none [] else .exc 0 := by
  rw [call_def (fn := f_check_panel) rfl ⟨rfl, rfl, by decide⟩]
  have c := c_is_panel d v h
  cases e : isPan v <;> (rw [e] at c; simp [evSs, e_var, e_non, e_bl, e_int, e_str, e_glob, e_op, e_chain, e_and, e_or, e_one, e_not, e_ife, e_tup, e_lst, e_call, s_set, s_setO, s_setT, s_par, s_aug, s_app, s_sto, s_exp, s_ret, s_ite, s_forr, s_whl, s_raise, s_tryR, s_frz, e_slice, evPs, evO, evI, gV0, gVs, gO0, gOs, iO0, iOs, sK0, sKs, canSet_ok, canOwn_ok, inF0, inFs, asg_name, setAll_cons, setAll_nil, asg_tup, asgs_nil, asgs_cons, ov_var, ov_non, ov_bl, ov_int, ov_str, ov_glob, ov_op, ov_chain, ov_and, ov_or, ov_one, ov_not, ov_ife, ov_tup, ov_lst, ov_call, ov_slice, ov_comp, resolve, Ev.plain, evOp, asgF, isFr, startF, endF, f_check_panel, b_check_panel, c])
def pr (p : Nat × Nat) : Dt := .tuple [.int (p.1 : Int), .int (p.2 : Int)]
def PD (P : List (Nat × Nat)) : Dt := .tuple (P.map pr)
structure IsP (P : List (Nat × Nat)) : Prop where
  pos : 1 ≤ P.length
  most : P.length ≤ 40
  inc : ∀ p ∈ P, (1 ≤ p.1 ∧ p.1 ≤ 1000000) ∧ (1 ≤ p.2 ∧ p.2 ≤ 1000000)
theorem okV_PD (P : List (Nat × Nat)) : okV (PD P) = true := by
  show (P.map pr).all okE = true
  rw [List.all_map, List.all_eq_true]
  intro p _
  rfl
theorem isPan_PD {P : List (Nat × Nat)} (h : IsP P) : isPan (PD P) = true := by
  show (decide (1 ≤ (P.map pr).length) && decide ((P.map pr).length ≤ 40) && (P.map pr).all pairOk) = true
  rw [List.length_map, decide_eq_true h.pos, decide_eq_true h.most, List.all_map]
  simp only [Bool.true_and, List.all_eq_true]
  intro p hp
  have := h.inc p hp
  show ((decide ((1 : Int) ≤ (p.1 : Int)) && decide ((p.1 : Int) ≤ 1000000)) && (decide ((1 : Int) ≤ (p.2 : Int)) && decide ((p.2 : Int) ≤ 1000000))) = true
  rw [decide_eq_true (by omega), decide_eq_true (by omega), decide_eq_true (by omega), decide_eq_true (by omega)]
  rfl
theorem c_chk (d : Nat) {P : List (Nat × Nat)} (h : IsP P) : T.call (d + 4) 3 none [PD P] = .ok .none [] := by
  rw [c_check d _ (okV_PD P), if_pos (isPan_PD h)]
theorem seq_P (P : List (Nat × Nat)) : seqOf (PD P) = some (P.map fun p => .tuple [.int (p.1 : Int), .int (p.2 : Int)]) := rfl
theorem len_P (P : List (Nat × Nat)) : evLen (PD P) = some (.int (P.length : Int)) := by
  show some (PyData.int ((P.map pr).length : Int)) = _
  rw [List.length_map]
theorem idx_P {P : List (Nat × Nat)} {k : Nat} (h : k < P.length) : evIdx (PD P) (.int (k : Int)) = some (pr (P.getD k (0, 0))) := by
  refine idx_tn ?_
  rw [List.getElem?_map, List.getElem?_eq_getElem h, getD_eq h]
  rfl
theorem dist_i (x y : Nat) : evInt1 (fun i => if i < 0 then -i else i) (.int ((x : Int) - (y : Int))) = some (.int (dist x y : Int)) := by
  show some (PyData.int (if (x : Int) - (y : Int) < 0 then -((x : Int) - (y : Int)) else (x : Int) - (y : Int))) = _
  have : (if (x : Int) - (y : Int) < 0 then -((x : Int) - (y : Int)) else (x : Int) - (y : Int)) = (dist x y : Int) := by
    unfold dist; split <;> omega
  rw [this]
theorem sub_i (x y : Int) : evInt2 (fun _ _ => true) (fun i j => i - j) (.int x) (.int y) = some (.int (x - y)) := rfl
theorem sum_f {α : Type} (f : α → Nat) (L : List α) : evSum (.list (L.map fun x => PyData.int (f x : Int))) = some (.int (((L.map f).sum : Nat) : Int)) := by
  have := sum_L (L.map f)
  unfold LL ND at this
  rw [List.map_map] at this
  exact this
theorem cost_flip (P : List (Nat × Nat)) : (P.map fun p => dist p.2 p.1).sum = cost P := by
  unfold cost
  congr 1
  exact List.map_congr_left fun p _ => dist_comm _ _
theorem c_changed (d : Nat) (P : List (Nat × Nat)) : T.call (d + 1) 6 none [PD P] = .ok (.int (cost P : Int)) [] := by
  rw [call_def (fn := f_changed) rfl ⟨rfl, rfl, by decide⟩]
  have c0 : evE (T.wd (T.call d) false false) c_changed_0 [.val (PD P), .no, .no] = .ok (.list (P.map fun p => PyData.int (dist p.2 p.1 : Int)), [.val (PD P), .no, .no]) := by
    unfold c_changed_0
    refine comp_pair0 (by decide) (xs := P) (fun p => PyData.int (p.1 : Int)) (fun p => PyData.int (p.2 : Int)) _ ?_ (by simp [sK0, sKs]) (by simp [sK0, sKs]) fun p _ => ?_
    · simp [evSs, e_var, e_non, e_bl, e_int, e_str, e_glob, e_op, e_chain, e_and, e_or, e_one, e_not, e_ife, e_tup, e_lst, e_call, s_set, s_setO, s_setT, s_par, s_aug, s_app, s_sto, s_exp, s_ret, s_ite, s_forr, s_whl, s_raise, s_tryR, s_frz, e_slice, evPs, evO, evI, gV0, gVs, gO0, gOs, iO0, iOs, sK0, sKs, canSet_ok, canOwn_ok, inF0, inFs, asg_name, setAll_cons, setAll_nil, asg_tup, asgs_nil, asgs_cons, ov_var, ov_non, ov_bl, ov_int, ov_str, ov_glob, ov_op, ov_chain, ov_and, ov_or, ov_one, ov_not, ov_ife, ov_tup, ov_lst, ov_call, ov_slice, ov_comp, resolve, Ev.plain, evOp, asgF, isFr, startF, endF, seq_P]
    · have q := dist_i p.2 p.1
      simp [evSs, e_var, e_non, e_bl, e_int, e_str, e_glob, e_op, e_chain, e_and, e_or, e_one, e_not, e_ife, e_tup, e_lst, e_call, s_set, s_setO, s_setT, s_par, s_aug, s_app, s_sto, s_exp, s_ret, s_ite, s_forr, s_whl, s_raise, s_tryR, s_frz, e_slice, evPs, evO, evI, gV0, gVs, gO0, gOs, iO0, iOs, sK0, sKs, canSet_ok, canOwn_ok, inF0, inFs, asg_name, setAll_cons, setAll_nil, asg_tup, asgs_nil, asgs_cons, ov_var, ov_non, ov_bl, ov_int, ov_str, ov_glob, ov_op, ov_chain, ov_and, ov_or, ov_one, ov_not, ov_ife, ov_tup, ov_lst, ov_call, ov_slice, ov_comp, resolve, Ev.plain, evOp, asgF, isFr, startF, endF, sub_i, q]
  have su := sum_f (fun p : Nat × Nat => dist p.2 p.1) P
  rw [cost_flip] at su
  generalize PyData.list (P.map fun p => PyData.int (dist p.2 p.1 : Int)) = A at *
  simp [evSs, e_var, e_non, e_bl, e_int, e_str, e_glob, e_op, e_chain, e_and, e_or, e_one, e_not, e_ife, e_tup, e_lst, e_call, s_set, s_setO, s_setT, s_par, s_aug, s_app, s_sto, s_exp, s_ret, s_ite, s_forr, s_whl, s_raise, s_tryR, s_frz, e_slice, evPs, evO, evI, gV0, gVs, gO0, gOs, iO0, iOs, sK0, sKs, canSet_ok, canOwn_ok, inF0, inFs, asg_name, setAll_cons, setAll_nil, asg_tup, asgs_nil, asgs_cons, ov_var, ov_non, ov_bl, ov_int, ov_str, ov_glob, ov_op, ov_chain, ov_and, ov_or, ov_one, ov_not, ov_ife, ov_tup, ov_lst, ov_call, ov_slice, ov_comp, resolve, Ev.plain, evOp, asgF, isFr, startF, endF, f_changed, b_changed, c0, oc_changed_0, su]
theorem c_lchange (d : Nat) (P : List (Nat × Nat)) : T.call (d + 1) 21 none [PD P] = .ok (.int (cost P : Int)) [] := by
  rw [call_def (fn := f__law_change) rfl ⟨rfl, rfl, by decide⟩]
  have c0 : evE (T.wd (T.call d) false false) c__law_change_0 [.val (PD P), .no, .no] = .ok (.list (P.map fun p => PyData.int (dist p.2 p.1 : Int)), [.val (PD P), .no, .no]) := by
    unfold c__law_change_0
    refine comp_pair0 (by decide) (xs := P) (fun p => PyData.int (p.1 : Int)) (fun p => PyData.int (p.2 : Int)) _ ?_ (by simp [sK0, sKs]) (by simp [sK0, sKs]) fun p _ => ?_
    · simp [evSs, e_var, e_non, e_bl, e_int, e_str, e_glob, e_op, e_chain, e_and, e_or, e_one, e_not, e_ife, e_tup, e_lst, e_call, s_set, s_setO, s_setT, s_par, s_aug, s_app, s_sto, s_exp, s_ret, s_ite, s_forr, s_whl, s_raise, s_tryR, s_frz, e_slice, evPs, evO, evI, gV0, gVs, gO0, gOs, iO0, iOs, sK0, sKs, canSet_ok, canOwn_ok, inF0, inFs, asg_name, setAll_cons, setAll_nil, asg_tup, asgs_nil, asgs_cons, ov_var, ov_non, ov_bl, ov_int, ov_str, ov_glob, ov_op, ov_chain, ov_and, ov_or, ov_one, ov_not, ov_ife, ov_tup, ov_lst, ov_call, ov_slice, ov_comp, resolve, Ev.plain, evOp, asgF, isFr, startF, endF, seq_P]
    · have q := dist_i p.2 p.1
      simp [evSs, e_var, e_non, e_bl, e_int, e_str, e_glob, e_op, e_chain, e_and, e_or, e_one, e_not, e_ife, e_tup, e_lst, e_call, s_set, s_setO, s_setT, s_par, s_aug, s_app, s_sto, s_exp, s_ret, s_ite, s_forr, s_whl, s_raise, s_tryR, s_frz, e_slice, evPs, evO, evI, gV0, gVs, gO0, gOs, iO0, iOs, sK0, sKs, canSet_ok, canOwn_ok, inF0, inFs, asg_name, setAll_cons, setAll_nil, asg_tup, asgs_nil, asgs_cons, ov_var, ov_non, ov_bl, ov_int, ov_str, ov_glob, ov_op, ov_chain, ov_and, ov_or, ov_one, ov_not, ov_ife, ov_tup, ov_lst, ov_call, ov_slice, ov_comp, resolve, Ev.plain, evOp, asgF, isFr, startF, endF, sub_i, q]
  have su := sum_f (fun p : Nat × Nat => dist p.2 p.1) P
  rw [cost_flip] at su
  generalize PyData.list (P.map fun p => PyData.int (dist p.2 p.1 : Int)) = A at *
  simp [evSs, e_var, e_non, e_bl, e_int, e_str, e_glob, e_op, e_chain, e_and, e_or, e_one, e_not, e_ife, e_tup, e_lst, e_call, s_set, s_setO, s_setT, s_par, s_aug, s_app, s_sto, s_exp, s_ret, s_ite, s_forr, s_whl, s_raise, s_tryR, s_frz, e_slice, evPs, evO, evI, gV0, gVs, gO0, gOs, iO0, iOs, sK0, sKs, canSet_ok, canOwn_ok, inF0, inFs, asg_name, setAll_cons, setAll_nil, asg_tup, asgs_nil, asgs_cons, ov_var, ov_non, ov_bl, ov_int, ov_str, ov_glob, ov_op, ov_chain, ov_and, ov_or, ov_one, ov_not, ov_ife, ov_tup, ov_lst, ov_call, ov_slice, ov_comp, resolve, Ev.plain, evOp, asgF, isFr, startF, endF, f__law_change, b__law_change, c0, oc__law_change_0, su]
theorem c_change (d : Nat) {P : List (Nat × Nat)} (h : IsP P) : T.call (d + 5) 7 none [PD P] = .ok (.int (cost P : Int)) [] := by
  rw [call_def (fn := f_change) rfl ⟨rfl, rfl, by decide⟩]
  have a := c_chk d h
  have b := c_changed (d + 3) P
  simp [evSs, e_var, e_non, e_bl, e_int, e_str, e_glob, e_op, e_chain, e_and, e_or, e_one, e_not, e_ife, e_tup, e_lst, e_call, s_set, s_setO, s_setT, s_par, s_aug, s_app, s_sto, s_exp, s_ret, s_ite, s_forr, s_whl, s_raise, s_tryR, s_frz, e_slice, evPs, evO, evI, gV0, gVs, gO0, gOs, iO0, iOs, sK0, sKs, canSet_ok, canOwn_ok, inF0, inFs, asg_name, setAll_cons, setAll_nil, asg_tup, asgs_nil, asgs_cons, ov_var, ov_non, ov_bl, ov_int, ov_str, ov_glob, ov_op, ov_chain, ov_and, ov_or, ov_one, ov_not, ov_ife, ov_tup, ov_lst, ov_call, ov_slice, ov_comp, resolve, Ev.plain, evOp, asgF, isFr, startF, endF, f_change, b_change, a, b]
def fs (P : List (Nat × Nat)) : List Nat := sortN (P.map (·.1))
def ss (P : List (Nat × Nat)) : List Nat := sortN (P.map (·.2))
theorem c_both (d : Nat) {P : List (Nat × Nat)} (h : P.length ≤ 40) : T.call (d + 1) 4 none [PD P] = .ok (.tuple [LT (fs P), LT (ss P)]) [] := by
  rw [call_def (fn := f_both_lots) rfl ⟨rfl, rfl, by decide⟩]
  have c1 : evE (T.wd (T.call d) false false) c_both_lots_1 [.val (PD P), .no, .no, .no] = .ok (LL (P.map (·.1)), [.val (PD P), .no, .no, .no]) := by
    unfold c_both_lots_1 LL ND
    rw [List.map_map]
    refine comp_pair0 (by decide) (xs := P) (fun p => PyData.int (p.1 : Int)) (fun p => PyData.int (p.2 : Int)) _ ?_ (by simp [sK0, sKs]) (by simp [sK0, sKs]) fun p _ => ?_
    · simp [evSs, e_var, e_non, e_bl, e_int, e_str, e_glob, e_op, e_chain, e_and, e_or, e_one, e_not, e_ife, e_tup, e_lst, e_call, s_set, s_setO, s_setT, s_par, s_aug, s_app, s_sto, s_exp, s_ret, s_ite, s_forr, s_whl, s_raise, s_tryR, s_frz, e_slice, evPs, evO, evI, gV0, gVs, gO0, gOs, iO0, iOs, sK0, sKs, canSet_ok, canOwn_ok, inF0, inFs, asg_name, setAll_cons, setAll_nil, asg_tup, asgs_nil, asgs_cons, ov_var, ov_non, ov_bl, ov_int, ov_str, ov_glob, ov_op, ov_chain, ov_and, ov_or, ov_one, ov_not, ov_ife, ov_tup, ov_lst, ov_call, ov_slice, ov_comp, resolve, Ev.plain, evOp, asgF, isFr, startF, endF, seq_P]
    · simp [evSs, e_var, e_non, e_bl, e_int, e_str, e_glob, e_op, e_chain, e_and, e_or, e_one, e_not, e_ife, e_tup, e_lst, e_call, s_set, s_setO, s_setT, s_par, s_aug, s_app, s_sto, s_exp, s_ret, s_ite, s_forr, s_whl, s_raise, s_tryR, s_frz, e_slice, evPs, evO, evI, gV0, gVs, gO0, gOs, iO0, iOs, sK0, sKs, canSet_ok, canOwn_ok, inF0, inFs, asg_name, setAll_cons, setAll_nil, asg_tup, asgs_nil, asgs_cons, ov_var, ov_non, ov_bl, ov_int, ov_str, ov_glob, ov_op, ov_chain, ov_and, ov_or, ov_one, ov_not, ov_ife, ov_tup, ov_lst, ov_call, ov_slice, ov_comp, resolve, Ev.plain, evOp, asgF, isFr, startF, endF]
  have c0 : evE (T.wd (T.call d) false false) c_both_lots_0 [.val (PD P), .no, .no, .no] = .ok (LL (P.map (·.2)), [.val (PD P), .no, .no, .no]) := by
    unfold c_both_lots_0 LL ND
    rw [List.map_map]
    refine comp_pair0 (by decide) (xs := P) (fun p => PyData.int (p.1 : Int)) (fun p => PyData.int (p.2 : Int)) _ ?_ (by simp [sK0, sKs]) (by simp [sK0, sKs]) fun p _ => ?_
    · simp [evSs, e_var, e_non, e_bl, e_int, e_str, e_glob, e_op, e_chain, e_and, e_or, e_one, e_not, e_ife, e_tup, e_lst, e_call, s_set, s_setO, s_setT, s_par, s_aug, s_app, s_sto, s_exp, s_ret, s_ite, s_forr, s_whl, s_raise, s_tryR, s_frz, e_slice, evPs, evO, evI, gV0, gVs, gO0, gOs, iO0, iOs, sK0, sKs, canSet_ok, canOwn_ok, inF0, inFs, asg_name, setAll_cons, setAll_nil, asg_tup, asgs_nil, asgs_cons, ov_var, ov_non, ov_bl, ov_int, ov_str, ov_glob, ov_op, ov_chain, ov_and, ov_or, ov_one, ov_not, ov_ife, ov_tup, ov_lst, ov_call, ov_slice, ov_comp, resolve, Ev.plain, evOp, asgF, isFr, startF, endF, seq_P]
    · simp [evSs, e_var, e_non, e_bl, e_int, e_str, e_glob, e_op, e_chain, e_and, e_or, e_one, e_not, e_ife, e_tup, e_lst, e_call, s_set, s_setO, s_setT, s_par, s_aug, s_app, s_sto, s_exp, s_ret, s_ite, s_forr, s_whl, s_raise, s_tryR, s_frz, e_slice, evPs, evO, evI, gV0, gVs, gO0, gOs, iO0, iOs, sK0, sKs, canSet_ok, canOwn_ok, inF0, inFs, asg_name, setAll_cons, setAll_nil, asg_tup, asgs_nil, asgs_cons, ov_var, ov_non, ov_bl, ov_int, ov_str, ov_glob, ov_op, ov_chain, ov_and, ov_or, ov_one, ov_not, ov_ife, ov_tup, ov_lst, ov_call, ov_slice, ov_comp, resolve, Ev.plain, evOp, asgF, isFr, startF, endF]
  have s1 := sorted_L (xs := P.map (·.1)) (by simp; omega)
  have s2 := sorted_L (xs := P.map (·.2)) (by simp; omega)
  have t1 := tup_L (sortN (P.map (·.1)))
  have t2 := tup_L (sortN (P.map (·.2)))
  unfold fs ss
  generalize LL (P.map (·.1)) = A at *
  generalize LL (P.map (·.2)) = B at *
  simp [evSs, e_var, e_non, e_bl, e_int, e_str, e_glob, e_op, e_chain, e_and, e_or, e_one, e_not, e_ife, e_tup, e_lst, e_call, s_set, s_setO, s_setT, s_par, s_aug, s_app, s_sto, s_exp, s_ret, s_ite, s_forr, s_whl, s_raise, s_tryR, s_frz, e_slice, evPs, evO, evI, gV0, gVs, gO0, gOs, iO0, iOs, sK0, sKs, canSet_ok, canOwn_ok, inF0, inFs, asg_name, setAll_cons, setAll_nil, asg_tup, asgs_nil, asgs_cons, ov_var, ov_non, ov_bl, ov_int, ov_str, ov_glob, ov_op, ov_chain, ov_and, ov_or, ov_one, ov_not, ov_ife, ov_tup, ov_lst, ov_call, ov_slice, ov_comp, resolve, Ev.plain, evOp, asgF, isFr, startF, endF, f_both_lots, b_both_lots, c0, c1, oc_both_lots_0, oc_both_lots_1, s1, s2, t1, t2]
theorem c_lots (d : Nat) {P : List (Nat × Nat)} (h : IsP P) : T.call (d + 5) 5 none [PD P] = .ok (.tuple [LT (fs P), LT (ss P)]) [] := by
  rw [call_def (fn := f_lots_of) rfl ⟨rfl, rfl, by decide⟩]
  have a := c_chk d h
  have b := c_both (d + 3) h.most
  simp [evSs, e_var, e_non, e_bl, e_int, e_str, e_glob, e_op, e_chain, e_and, e_or, e_one, e_not, e_ife, e_tup, e_lst, e_call, s_set, s_setO, s_setT, s_par, s_aug, s_app, s_sto, s_exp, s_ret, s_ite, s_forr, s_whl, s_raise, s_tryR, s_frz, e_slice, evPs, evO, evI, gV0, gVs, gO0, gOs, iO0, iOs, sK0, sKs, canSet_ok, canOwn_ok, inF0, inFs, asg_name, setAll_cons, setAll_nil, asg_tup, asgs_nil, asgs_cons, ov_var, ov_non, ov_bl, ov_int, ov_str, ov_glob, ov_op, ov_chain, ov_and, ov_or, ov_one, ov_not, ov_ife, ov_tup, ov_lst, ov_call, ov_slice, ov_comp, resolve, Ev.plain, evOp, asgF, isFr, startF, endF, f_lots_of, b_lots_of, a, b]
/-- the people in order -/
def stl (P : List (Nat × Nat)) : List (Nat × Nat) := (fs P).zip (ss P)
theorem zip_nd : ∀ xs ys : List Nat, zipL (ND xs) (ND ys) = (xs.zip ys).map pr
  | [], _ => rfl
  | _ :: _, [] => rfl
  | x :: xs, y :: ys => by
    show PyData.tuple [.int (x : Int), .int (y : Int)] :: zipL (ND xs) (ND ys) = _
    rw [zip_nd xs ys]
    rfl
theorem c_structured (d : Nat) {P : List (Nat × Nat)} (h : P.length ≤ 40) : T.call (d + 2) 8 none [PD P] = .ok (.int (cost (stl P) : Int)) [] := by
  rw [call_def (fn := f_structured) rfl ⟨rfl, rfl, by decide⟩]
  have b := c_both d h
  have c0 : evE (T.wd (T.call (d + 1)) false false) c_structured_0 [.val (PD P), .val (LT (fs P)), .val (LT (ss P)), .no, .no] = .ok (.list ((stl P).map fun p => PyData.int (dist p.1 p.2 : Int)), [.val (PD P), .val (LT (fs P)), .val (LT (ss P)), .no, .no]) := by
    unfold c_structured_0
    refine comp_pair0 (by decide) (xs := stl P) (fun p => PyData.int (p.1 : Int)) (fun p => PyData.int (p.2 : Int)) _ ?_ (by simp [sK0, sKs]) (by simp [sK0, sKs]) fun p _ => ?_
    · have z : zipOk (LT (fs P)) (LT (ss P)) = some ((stl P).map pr) := congrArg some (zip_nd _ _)
      simp [evSs, e_var, e_non, e_bl, e_int, e_str, e_glob, e_op, e_chain, e_and, e_or, e_one, e_not, e_ife, e_tup, e_lst, e_call, s_set, s_setO, s_setT, s_par, s_aug, s_app, s_sto, s_exp, s_ret, s_ite, s_forr, s_whl, s_raise, s_tryR, s_frz, e_slice, evPs, evO, evI, gV0, gVs, gO0, gOs, iO0, iOs, sK0, sKs, canSet_ok, canOwn_ok, inF0, inFs, asg_name, setAll_cons, setAll_nil, asg_tup, asgs_nil, asgs_cons, ov_var, ov_non, ov_bl, ov_int, ov_str, ov_glob, ov_op, ov_chain, ov_and, ov_or, ov_one, ov_not, ov_ife, ov_tup, ov_lst, ov_call, ov_slice, ov_comp, resolve, Ev.plain, evOp, asgF, isFr, startF, endF, z, pr]
    · have q := dist_i p.1 p.2
      simp [evSs, e_var, e_non, e_bl, e_int, e_str, e_glob, e_op, e_chain, e_and, e_or, e_one, e_not, e_ife, e_tup, e_lst, e_call, s_set, s_setO, s_setT, s_par, s_aug, s_app, s_sto, s_exp, s_ret, s_ite, s_forr, s_whl, s_raise, s_tryR, s_frz, e_slice, evPs, evO, evI, gV0, gVs, gO0, gOs, iO0, iOs, sK0, sKs, canSet_ok, canOwn_ok, inF0, inFs, asg_name, setAll_cons, setAll_nil, asg_tup, asgs_nil, asgs_cons, ov_var, ov_non, ov_bl, ov_int, ov_str, ov_glob, ov_op, ov_chain, ov_and, ov_or, ov_one, ov_not, ov_ife, ov_tup, ov_lst, ov_call, ov_slice, ov_comp, resolve, Ev.plain, evOp, asgF, isFr, startF, endF, sub_i, q]
  have su := sum_f (fun p : Nat × Nat => dist p.1 p.2) (stl P)
  have su : evSum (.list ((stl P).map fun p => PyData.int (dist p.1 p.2 : Int))) = some (.int (cost (stl P) : Int)) := su
  generalize PyData.list ((stl P).map fun p => PyData.int (dist p.1 p.2 : Int)) = A at *
  simp [evSs, e_var, e_non, e_bl, e_int, e_str, e_glob, e_op, e_chain, e_and, e_or, e_one, e_not, e_ife, e_tup, e_lst, e_call, s_set, s_setO, s_setT, s_par, s_aug, s_app, s_sto, s_exp, s_ret, s_ite, s_forr, s_whl, s_raise, s_tryR, s_frz, e_slice, evPs, evO, evI, gV0, gVs, gO0, gOs, iO0, iOs, sK0, sKs, canSet_ok, canOwn_ok, inF0, inFs, asg_name, setAll_cons, setAll_nil, asg_tup, asgs_nil, asgs_cons, ov_var, ov_non, ov_bl, ov_int, ov_str, ov_glob, ov_op, ov_chain, ov_and, ov_or, ov_one, ov_not, ov_ife, ov_tup, ov_lst, ov_call, ov_slice, ov_comp, resolve, Ev.plain, evOp, asgF, isFr, startF, endF, f_structured, b_structured, b, c0, oc_structured_0, su]
theorem c_structure (d : Nat) {P : List (Nat × Nat)} (h : IsP P) : T.call (d + 5) 9 none [PD P] = .ok (.int (cost (stl P) : Int)) [] := by
  rw [call_def (fn := f_structure) rfl ⟨rfl, rfl, by decide⟩]
  have a := c_chk d h
  have b := c_structured (d + 2) h.most
  simp [evSs, e_var, e_non, e_bl, e_int, e_str, e_glob, e_op, e_chain, e_and, e_or, e_one, e_not, e_ife, e_tup, e_lst, e_call, s_set, s_setO, s_setT, s_par, s_aug, s_app, s_sto, s_exp, s_ret, s_ite, s_forr, s_whl, s_raise, s_tryR, s_frz, e_slice, evPs, evO, evI, gV0, gVs, gO0, gOs, iO0, iOs, sK0, sKs, canSet_ok, canOwn_ok, inF0, inFs, asg_name, setAll_cons, setAll_nil, asg_tup, asgs_nil, asgs_cons, ov_var, ov_non, ov_bl, ov_int, ov_str, ov_glob, ov_op, ov_chain, ov_and, ov_or, ov_one, ov_not, ov_ife, ov_tup, ov_lst, ov_call, ov_slice, ov_comp, resolve, Ev.plain, evOp, asgF, isFr, startF, endF, f_structure, b_structure, a, b]
theorem c_exchange (d : Nat) {P : List (Nat × Nat)} (h : IsP P) : T.call (d + 5) 10 none [PD P] = .ok (.int ((cost P : Int) - (cost (stl P) : Int))) [] := by
  rw [call_def (fn := f_exchange) rfl ⟨rfl, rfl, by decide⟩]
  have a := c_chk d h
  have b := c_structured (d + 2) h.most
  have c := c_changed (d + 3) P
  simp [evSs, e_var, e_non, e_bl, e_int, e_str, e_glob, e_op, e_chain, e_and, e_or, e_one, e_not, e_ife, e_tup, e_lst, e_call, s_set, s_setO, s_setT, s_par, s_aug, s_app, s_sto, s_exp, s_ret, s_ite, s_forr, s_whl, s_raise, s_tryR, s_frz, e_slice, evPs, evO, evI, gV0, gVs, gO0, gOs, iO0, iOs, sK0, sKs, canSet_ok, canOwn_ok, inF0, inFs, asg_name, setAll_cons, setAll_nil, asg_tup, asgs_nil, asgs_cons, ov_var, ov_non, ov_bl, ov_int, ov_str, ov_glob, ov_op, ov_chain, ov_and, ov_or, ov_one, ov_not, ov_ife, ov_tup, ov_lst, ov_call, ov_slice, ov_comp, resolve, Ev.plain, evOp, asgF, isFr, startF, endF, f_exchange, b_exchange, a, b, c, sub_i]
theorem c_settled (d : Nat) {P : List (Nat × Nat)} (h : IsP P) : T.call (d + 6) 14 none [PD P] = .ok (PD (stl P)) [] := by
  rw [call_def (fn := f_settled) rfl ⟨rfl, rfl, by decide⟩]
  have a := c_lots d h
  have z : evTz (LT (fs P)) (LT (ss P)) = some (PD (stl P)) := congrArg (fun x => some (PyData.tuple x)) (zip_nd _ _)
  simp [evSs, e_var, e_non, e_bl, e_int, e_str, e_glob, e_op, e_chain, e_and, e_or, e_one, e_not, e_ife, e_tup, e_lst, e_call, s_set, s_setO, s_setT, s_par, s_aug, s_app, s_sto, s_exp, s_ret, s_ite, s_forr, s_whl, s_raise, s_tryR, s_frz, e_slice, evPs, evO, evI, gV0, gVs, gO0, gOs, iO0, iOs, sK0, sKs, canSet_ok, canOwn_ok, inF0, inFs, asg_name, setAll_cons, setAll_nil, asg_tup, asgs_nil, asgs_cons, ov_var, ov_non, ov_bl, ov_int, ov_str, ov_glob, ov_op, ov_chain, ov_and, ov_or, ov_one, ov_not, ov_ife, ov_tup, ov_lst, ov_call, ov_slice, ov_comp, resolve, Ev.plain, evOp, asgF, isFr, startF, endF, f_settled, b_settled, a, z]
theorem c_crosses (d : Nat) {P : List (Nat × Nat)} {i j : Nat} (hi : i < P.length) (hj : j < P.length) : T.call (d + 1) 11 none [PD P, .int (i : Int), .int (j : Int)] = .ok (.bool (cr (P.getD i (0, 0)) (P.getD j (0, 0)))) [] := by
  rw [call_def (fn := f_crosses) rfl ⟨rfl, rfl, by decide⟩]
  have x1 := idx_P hi
  have x2 := idx_P hj
  generalize P.getD i (0, 0) = p at *
  generalize P.getD j (0, 0) = q at *
  have a1 := dist_i q.2 p.1
  have a2 := dist_i p.2 q.1
  have a3 := dist_i p.2 p.1
  have a4 := dist_i q.2 q.1
  have ad : ∀ a b : Nat, evAdd (.int (a : Int)) (.int (b : Int)) = some (.int ((a + b : Nat) : Int)) := fun a b => rfl
  have e : decide (((dist q.2 p.1 + dist p.2 q.1 : Nat) : Int) < ((dist p.2 p.1 + dist q.2 q.1 : Nat) : Int)) = cr p q := by
    unfold cr
    rw [decide_eq_decide]
    omega
  have cm : evCmp (fun i j => decide (i < j)) (.int ((dist q.2 p.1 + dist p.2 q.1 : Nat) : Int)) (.int ((dist p.2 p.1 + dist q.2 q.1 : Nat) : Int)) = some (.bool (cr p q)) := by rw [← e]; rfl
  unfold pr at x1 x2
  generalize dist q.2 p.1 = m1 at *
  generalize dist p.2 q.1 = m2 at *
  generalize dist p.2 p.1 = m3 at *
  generalize dist q.2 q.1 = m4 at *
  simp [evSs, e_var, e_non, e_bl, e_int, e_str, e_glob, e_op, e_chain, e_and, e_or, e_one, e_not, e_ife, e_tup, e_lst, e_call, s_set, s_setO, s_setT, s_par, s_aug, s_app, s_sto, s_exp, s_ret, s_ite, s_forr, s_whl, s_raise, s_tryR, s_frz, e_slice, evPs, evO, evI, gV0, gVs, gO0, gOs, iO0, iOs, sK0, sKs, canSet_ok, canOwn_ok, inF0, inFs, asg_name, setAll_cons, setAll_nil, asg_tup, asgs_nil, asgs_cons, ov_var, ov_non, ov_bl, ov_int, ov_str, ov_glob, ov_op, ov_chain, ov_and, ov_or, ov_one, ov_not, ov_ife, ov_tup, ov_lst, ov_call, ov_slice, ov_comp, resolve, Ev.plain, evOp, asgF, isFr, startF, endF, f_crosses, b_crosses, x1, x2, sub_i, a1, a2, a3, a4, -Int.natCast_add, ad, cm]
end K79


set_option Elab.async false
set_option linter.all false
set_option maxRecDepth 100000
set_option maxHeartbeats 1000000
set_option exponentiation.threshold 500
namespace K79
open PySem Ev RatL M79
theorem for_some {α β : Type} {tg : Tg} {body : Frm → Flw} {g : α → Dt} {I : Frm → Prop} {p : α → Option β} {r : β → Dt} : ∀ {xs : List α} (_ : ∀ x ∈ xs, ∀ f, I f → ∃ f1, asg tg (g x) f = some f1 ∧ match p x with
    | none => ∃ f2, body f1 = .next f2 ∧ I f2
    | some b => ∃ f2, body f1 = .ret (r b) f2) (f : Frm), I f → match xs.findSome? p with
    | none => ∃ f', forLoop tg body (xs.map g) f = .next f' ∧ I f'
    | some b => ∃ f', forLoop tg body (xs.map g) f = .ret (r b) f'
  | [], _, f, h => ⟨f, rfl, h⟩
  | x :: xs, hs, f, h => by
    obtain ⟨f1, a1, q⟩ := hs x List.mem_cons_self f h
    rw [List.findSome?_cons]
    cases hp : p x with
    | none =>
      rw [hp] at q
      obtain ⟨f2, e2, i2⟩ := q
      have ih := for_some (xs := xs) (fun y hy => hs y (List.mem_cons_of_mem _ hy)) f2 i2
      have st : forLoop tg body ((x :: xs).map g) f = forLoop tg body (xs.map g) f2 := by
        rw [List.map_cons, forLoop, a1]
        simp only [e2]
      rw [st]
      exact ih
    | some b =>
      rw [hp] at q
      obtain ⟨f2, e2⟩ := q
      refine ⟨f2, ?_⟩
      rw [List.map_cons, forLoop, a1]
      simp only [e2]
/-! ### crossings -/
def crA (P : List (Nat × Nat)) (i j : Nat) : Bool := cr (P.getD i (0, 0)) (P.getD j (0, 0))
def prs1 (P : List (Nat × Nat)) (i : Nat) : List (Nat × Nat) := ((List.range' (i + 1) (P.length - (i + 1))).filter (crA P i)).map fun j => (i, j)
def prs (P : List (Nat × Nat)) : List (Nat × Nat) := (List.range P.length).flatMap (prs1 P)
def optP : Option (Nat × Nat) → Dt
  | none => .none
  | some p => pr p
theorem prs1_head (P : List (Nat × Nat)) (i : Nat) : (prs1 P i).head? = (List.range' (i + 1) (P.length - (i + 1))).findSome? fun j => if crA P i j then some (i, j) else none := by
  unfold prs1
  induction List.range' (i + 1) (P.length - (i + 1)) with
  | nil => rfl
  | cons j js ih =>
    rw [List.filter_cons, List.findSome?_cons]
    cases crA P i j
    · simpa using ih
    · simp
theorem c_crossing (d : Nat) {P : List (Nat × Nat)} (h : IsP P) : T.call (d + 5) 12 none [PD P] = .ok (optP (prs P).head?) [] := by
  rw [call_def (fn := f_crossing) rfl ⟨rfl, rfl, by decide⟩]
  have a := c_chk d h
  have ln := len_P P
  have hm := h.most
  have inner : ∀ i, i < P.length → ∀ s, isOwnS s = false → match (prs1 P i).head? with
      | none => ∃ s', isOwnS s' = false ∧ evSs (T.wd (T.call (d + 4)) false false) l_crossing_1 [.val (PD P), .val (.int (i : Int)), s] = .next [.val (PD P), .val (.int (i : Int)), s']
      | some b => ∃ f, evSs (T.wd (T.call (d + 4)) false false) l_crossing_1 [.val (PD P), .val (.int (i : Int)), s] = .ret (pr b) f := fun i hi s hs => by
    have hr : rngOk ((i : Int) + 1) (P.length : Int) = some ((List.range' (i + 1) (P.length - (i + 1))).map fun (j : Nat) => PyData.int (j : Int)) := by
      rw [show (i : Int) + 1 = ((i + 1 : Nat) : Int) by omega]
      exact rng_2 (by omega) (by omega)
    have ff := for_some (tg := .name 2) (body := evSs (T.wd (T.call (d + 4)) false false) l_crossing_0) (g := fun (j : Nat) => PyData.int (j : Int)) (I := fun f => ∃ s, isOwnS s = false ∧ f = [.val (PD P), .val (.int (i : Int)), s]) (p := fun j => if crA P i j then some (i, j) else none) (r := pr) (xs := List.range' (i + 1) (P.length - (i + 1)))
      (by
        rintro j hj f ⟨s, hs, rfl⟩
        have hj := List.mem_range'_1.mp hj
        refine ⟨[.val (PD P), .val (.int (i : Int)), .val (.int (j : Int))], by rw [asg_name]; simp [sKs, sK0, hs], ?_⟩
        have c : T.call (d + 4) 11 none [PD P, .int (i : Int), .int (j : Int)] = .ok (.bool (crA P i j)) [] := c_crosses (d + 3) hi (by omega)
        cases e : crA P i j <;> rw [e] at c
        · exact ⟨[.val (PD P), .val (.int (i : Int)), .val (.int (j : Int))], by simp [evSs, e_var, e_non, e_bl, e_int, e_str, e_glob, e_op, e_chain, e_and, e_or, e_one, e_not, e_ife, e_tup, e_lst, e_call, s_set, s_setO, s_setT, s_par, s_aug, s_app, s_sto, s_exp, s_ret, s_ite, s_forr, s_whl, s_raise, s_tryR, s_frz, e_slice, evPs, evO, evI, gV0, gVs, gO0, gOs, iO0, iOs, sK0, sKs, canSet_ok, canOwn_ok, inF0, inFs, asg_name, setAll_cons, setAll_nil, asg_tup, asgs_nil, asgs_cons, ov_var, ov_non, ov_bl, ov_int, ov_str, ov_glob, ov_op, ov_chain, ov_and, ov_or, ov_one, ov_not, ov_ife, ov_tup, ov_lst, ov_call, ov_slice, ov_comp, resolve, Ev.plain, evOp, asgF, isFr, startF, endF, l_crossing_0, c], .val (.int (j : Int)), rfl, rfl⟩
        · exact ⟨_, by simp [evSs, e_var, e_non, e_bl, e_int, e_str, e_glob, e_op, e_chain, e_and, e_or, e_one, e_not, e_ife, e_tup, e_lst, e_call, s_set, s_setO, s_setT, s_par, s_aug, s_app, s_sto, s_exp, s_ret, s_ite, s_forr, s_whl, s_raise, s_tryR, s_frz, e_slice, evPs, evO, evI, gV0, gVs, gO0, gOs, iO0, iOs, sK0, sKs, canSet_ok, canOwn_ok, inF0, inFs, asg_name, setAll_cons, setAll_nil, asg_tup, asgs_nil, asgs_cons, ov_var, ov_non, ov_bl, ov_int, ov_str, ov_glob, ov_op, ov_chain, ov_and, ov_or, ov_one, ov_not, ov_ife, ov_tup, ov_lst, ov_call, ov_slice, ov_comp, resolve, Ev.plain, evOp, asgF, isFr, startF, endF, l_crossing_0, c, pr]; rfl⟩)
      [.val (PD P), .val (.int (i : Int)), s] ⟨s, hs, rfl⟩
    rw [← prs1_head] at ff
    cases e : (prs1 P i).head? with
    | none =>
      rw [e] at ff
      obtain ⟨f', e1, s', hs', rfl⟩ := ff
      exact ⟨s', hs', by simp [evSs, e_var, e_non, e_bl, e_int, e_str, e_glob, e_op, e_chain, e_and, e_or, e_one, e_not, e_ife, e_tup, e_lst, e_call, s_set, s_setO, s_setT, s_par, s_aug, s_app, s_sto, s_exp, s_ret, s_ite, s_forr, s_whl, s_raise, s_tryR, s_frz, e_slice, evPs, evO, evI, gV0, gVs, gO0, gOs, iO0, iOs, sK0, sKs, canSet_ok, canOwn_ok, inF0, inFs, asg_name, setAll_cons, setAll_nil, asg_tup, asgs_nil, asgs_cons, ov_var, ov_non, ov_bl, ov_int, ov_str, ov_glob, ov_op, ov_chain, ov_and, ov_or, ov_one, ov_not, ov_ife, ov_tup, ov_lst, ov_call, ov_slice, ov_comp, resolve, Ev.plain, evOp, asgF, isFr, startF, endF, l_crossing_1, ln, evAdd, hr, e1]⟩
    | some b =>
      rw [e] at ff
      obtain ⟨f', e1⟩ := ff
      exact ⟨f', by simp [evSs, e_var, e_non, e_bl, e_int, e_str, e_glob, e_op, e_chain, e_and, e_or, e_one, e_not, e_ife, e_tup, e_lst, e_call, s_set, s_setO, s_setT, s_par, s_aug, s_app, s_sto, s_exp, s_ret, s_ite, s_forr, s_whl, s_raise, s_tryR, s_frz, e_slice, evPs, evO, evI, gV0, gVs, gO0, gOs, iO0, iOs, sK0, sKs, canSet_ok, canOwn_ok, inF0, inFs, asg_name, setAll_cons, setAll_nil, asg_tup, asgs_nil, asgs_cons, ov_var, ov_non, ov_bl, ov_int, ov_str, ov_glob, ov_op, ov_chain, ov_and, ov_or, ov_one, ov_not, ov_ife, ov_tup, ov_lst, ov_call, ov_slice, ov_comp, resolve, Ev.plain, evOp, asgF, isFr, startF, endF, l_crossing_1, ln, evAdd, hr, e1]⟩
  have ff := for_some (tg := .name 1) (body := evSs (T.wd (T.call (d + 4)) false false) l_crossing_1) (g := fun (j : Nat) => PyData.int (j : Int)) (I := fun f => ∃ t s, isOwnS t = false ∧ isOwnS s = false ∧ f = [.val (PD P), t, s]) (p := fun i => (prs1 P i).head?) (r := pr) (xs := List.range P.length)
    (by
      rintro i hi f ⟨t, s, ht, hs, rfl⟩
      have hi := List.mem_range.mp hi
      refine ⟨[.val (PD P), .val (.int (i : Int)), s], by rw [asg_name]; simp [sKs, sK0, ht], ?_⟩
      have q := inner i hi s hs
      cases e : (prs1 P i).head? with
      | none =>
        rw [e] at q
        obtain ⟨s', hs', e1⟩ := q
        exact ⟨_, e1, _, _, rfl, hs', rfl⟩
      | some b =>
        rw [e] at q
        obtain ⟨f, e1⟩ := q
        exact ⟨f, e1⟩)
    [.val (PD P), .no, .no] ⟨.no, .no, rfl, rfl, rfl⟩
  have e0 : (List.range P.length).findSome? (fun i => (prs1 P i).head?) = (prs P).head? := by unfold prs; rw [List.head?_flatMap]
  rw [e0] at ff
  have hr : rngOk 0 (P.length : Int) = _ := rng_0 (k := P.length) (by omega)
  cases e : (prs P).head? with
  | none =>
    rw [e] at ff
    obtain ⟨f', e1, t, s, _, _, rfl⟩ := ff
    simp [evSs, e_var, e_non, e_bl, e_int, e_str, e_glob, e_op, e_chain, e_and, e_or, e_one, e_not, e_ife, e_tup, e_lst, e_call, s_set, s_setO, s_setT, s_par, s_aug, s_app, s_sto, s_exp, s_ret, s_ite, s_forr, s_whl, s_raise, s_tryR, s_frz, e_slice, evPs, evO, evI, gV0, gVs, gO0, gOs, iO0, iOs, sK0, sKs, canSet_ok, canOwn_ok, inF0, inFs, asg_name, setAll_cons, setAll_nil, asg_tup, asgs_nil, asgs_cons, ov_var, ov_non, ov_bl, ov_int, ov_str, ov_glob, ov_op, ov_chain, ov_and, ov_or, ov_one, ov_not, ov_ife, ov_tup, ov_lst, ov_call, ov_slice, ov_comp, resolve, Ev.plain, evOp, asgF, isFr, startF, endF, f_crossing, b_crossing, a, ln, hr, e1, optP]
  | some b =>
    rw [e] at ff
    obtain ⟨f', e1⟩ := ff
    simp [evSs, e_var, e_non, e_bl, e_int, e_str, e_glob, e_op, e_chain, e_and, e_or, e_one, e_not, e_ife, e_tup, e_lst, e_call, s_set, s_setO, s_setT, s_par, s_aug, s_app, s_sto, s_exp, s_ret, s_ite, s_forr, s_whl, s_raise, s_tryR, s_frz, e_slice, evPs, evO, evI, gV0, gVs, gO0, gOs, iO0, iOs, sK0, sKs, canSet_ok, canOwn_ok, inF0, inFs, asg_name, setAll_cons, setAll_nil, asg_tup, asgs_nil, asgs_cons, ov_var, ov_non, ov_bl, ov_int, ov_str, ov_glob, ov_op, ov_chain, ov_and, ov_or, ov_one, ov_not, ov_ife, ov_tup, ov_lst, ov_call, ov_slice, ov_comp, resolve, Ev.plain, evOp, asgF, isFr, startF, endF, f_crossing, b_crossing, a, ln, hr, e1, optP]
def inR (n : Nat) : Dt → Bool
  | .int k => decide (0 ≤ k) && decide (k < (n : Int))
  | _ => false
def toN : Dt → Nat
  | .int k => k.toNat
  | _ => 0
def isCr (P : List (Nat × Nat)) : Dt → Bool
  | .tuple [x, y] => (inR P.length x && inR P.length y) && crA P (toN x) (toN y)
  | _ => false
theorem inR_int {n : Nat} {x : Dt} (h : inR n x = true) : ∃ k : Nat, k < n ∧ x = .int (k : Int) := by
  cases x with
  | int k =>
    have h : (decide (0 ≤ k) && decide (k < (n : Int))) = true := h
    simp only [Bool.and_eq_true, decide_eq_true_eq] at h
    exact ⟨k.toNat, by omega, by rw [show ((k.toNat : Nat) : Int) = k by omega]⟩
  | _ => cases h
theorem all2 (p : Dt → Bool) (a b : Dt) : evBools (fun bs => bs.all id) (.list [.bool (p a), .bool (p b)]) = some (.bool (p a && p b)) := by
  have := all_map p [a, b]
  simpa using this
theorem c_is_crossing (d : Nat) {P : List (Nat × Nat)} (h : IsP P) {v : Dt} (hv : okE v = true) : T.call (d + 5) 13 none [PD P, v] = .ok (.bool (isCr P v)) [] := by
  rw [call_def (fn := f_is_crossing) rfl ⟨rfl, rfl, by decide⟩]
  have a := c_chk d h
  have ln := len_P P
  cases v with
  | dict _ => cases hv
  | tuple xs =>
    match xs, hv with
    | [], _ => simp [evSs, e_var, e_non, e_bl, e_int, e_str, e_glob, e_op, e_chain, e_and, e_or, e_one, e_not, e_ife, e_tup, e_lst, e_call, s_set, s_setO, s_setT, s_par, s_aug, s_app, s_sto, s_exp, s_ret, s_ite, s_forr, s_whl, s_raise, s_tryR, s_frz, e_slice, evPs, evO, evI, gV0, gVs, gO0, gOs, iO0, iOs, sK0, sKs, canSet_ok, canOwn_ok, inF0, inFs, asg_name, setAll_cons, setAll_nil, asg_tup, asgs_nil, asgs_cons, ov_var, ov_non, ov_bl, ov_int, ov_str, ov_glob, ov_op, ov_chain, ov_and, ov_or, ov_one, ov_not, ov_ife, ov_tup, ov_lst, ov_call, ov_slice, ov_comp, resolve, Ev.plain, evOp, asgF, isFr, startF, endF, f_is_crossing, b_is_crossing, a, isDict, tyOk, isTy, tyName, evLen, evEq_int, isCr]
    | [x], _ => simp [evSs, e_var, e_non, e_bl, e_int, e_str, e_glob, e_op, e_chain, e_and, e_or, e_one, e_not, e_ife, e_tup, e_lst, e_call, s_set, s_setO, s_setT, s_par, s_aug, s_app, s_sto, s_exp, s_ret, s_ite, s_forr, s_whl, s_raise, s_tryR, s_frz, e_slice, evPs, evO, evI, gV0, gVs, gO0, gOs, iO0, iOs, sK0, sKs, canSet_ok, canOwn_ok, inF0, inFs, asg_name, setAll_cons, setAll_nil, asg_tup, asgs_nil, asgs_cons, ov_var, ov_non, ov_bl, ov_int, ov_str, ov_glob, ov_op, ov_chain, ov_and, ov_or, ov_one, ov_not, ov_ife, ov_tup, ov_lst, ov_call, ov_slice, ov_comp, resolve, Ev.plain, evOp, asgF, isFr, startF, endF, f_is_crossing, b_is_crossing, a, isDict, tyOk, isTy, tyName, evLen, evEq_int, isCr]
    | [x, y], hv =>
      have hv : (!isDict x && (!isDict y && true)) = true := hv
      simp only [Bool.and_eq_true, Bool.not_eq_true', Bool.and_true] at hv
      have c0 : evE (T.wd (T.call (d + 4)) false false) c_is_crossing_0 [.val (PD P), .val (.tuple [x, y]), .no] = .ok (.list [.bool (inR P.length x), .bool (inR P.length y)], [.val (PD P), .val (.tuple [x, y]), .no]) := by
        unfold c_is_crossing_0
        refine comp_t (xs := [x, y]) (fun x => x) (fun x => .bool (inR P.length x)) ?_ (by simp [sK0, sKs]) fun z hz => ?_
        · simp [evSs, e_var, e_non, e_bl, e_int, e_str, e_glob, e_op, e_chain, e_and, e_or, e_one, e_not, e_ife, e_tup, e_lst, e_call, s_set, s_setO, s_setT, s_par, s_aug, s_app, s_sto, s_exp, s_ret, s_ite, s_forr, s_whl, s_raise, s_tryR, s_frz, e_slice, evPs, evO, evI, gV0, gVs, gO0, gOs, iO0, iOs, sK0, sKs, canSet_ok, canOwn_ok, inF0, inFs, asg_name, setAll_cons, setAll_nil, asg_tup, asgs_nil, asgs_cons, ov_var, ov_non, ov_bl, ov_int, ov_str, ov_glob, ov_op, ov_chain, ov_and, ov_or, ov_one, ov_not, ov_ife, ov_tup, ov_lst, ov_call, ov_slice, ov_comp, resolve, Ev.plain, evOp, asgF, isFr, startF, endF, seqOf]
        · have nd : isDict z = false := by
            rcases List.mem_cons.mp hz with rfl | hz
            · exact hv.1
            · rw [List.mem_singleton.mp hz]; exact hv.2
          have w := c_is_whole (d + 3) z nd
          cases z with
          | int k => by_cases k0 : 0 ≤ k <;> simp [evSs, e_var, e_non, e_bl, e_int, e_str, e_glob, e_op, e_chain, e_and, e_or, e_one, e_not, e_ife, e_tup, e_lst, e_call, s_set, s_setO, s_setT, s_par, s_aug, s_app, s_sto, s_exp, s_ret, s_ite, s_forr, s_whl, s_raise, s_tryR, s_frz, e_slice, evPs, evO, evI, gV0, gVs, gO0, gOs, iO0, iOs, sK0, sKs, canSet_ok, canOwn_ok, inF0, inFs, asg_name, setAll_cons, setAll_nil, asg_tup, asgs_nil, asgs_cons, ov_var, ov_non, ov_bl, ov_int, ov_str, ov_glob, ov_op, ov_chain, ov_and, ov_or, ov_one, ov_not, ov_ife, ov_tup, ov_lst, ov_call, ov_slice, ov_comp, resolve, Ev.plain, evOp, asgF, isFr, startF, endF, w, isW, evCmp, ln, inR, k0]
          | dict _ => cases nd
          | _ => simp [evSs, e_var, e_non, e_bl, e_int, e_str, e_glob, e_op, e_chain, e_and, e_or, e_one, e_not, e_ife, e_tup, e_lst, e_call, s_set, s_setO, s_setT, s_par, s_aug, s_app, s_sto, s_exp, s_ret, s_ite, s_forr, s_whl, s_raise, s_tryR, s_frz, e_slice, evPs, evO, evI, gV0, gVs, gO0, gOs, iO0, iOs, sK0, sKs, canSet_ok, canOwn_ok, inF0, inFs, asg_name, setAll_cons, setAll_nil, asg_tup, asgs_nil, asgs_cons, ov_var, ov_non, ov_bl, ov_int, ov_str, ov_glob, ov_op, ov_chain, ov_and, ov_or, ov_one, ov_not, ov_ife, ov_tup, ov_lst, ov_call, ov_slice, ov_comp, resolve, Ev.plain, evOp, asgF, isFr, startF, endF, w, isW, inR]
      have al := all2 (inR P.length) x y
      cases e : (inR P.length x && inR P.length y) with
      | false =>
        rw [e] at al
        have r : isCr P (.tuple [x, y]) = false := by show ((inR P.length x && inR P.length y) && _) = false; rw [e]; rfl
        rw [r]
        simp [evSs, e_var, e_non, e_bl, e_int, e_str, e_glob, e_op, e_chain, e_and, e_or, e_one, e_not, e_ife, e_tup, e_lst, e_call, s_set, s_setO, s_setT, s_par, s_aug, s_app, s_sto, s_exp, s_ret, s_ite, s_forr, s_whl, s_raise, s_tryR, s_frz, e_slice, evPs, evO, evI, gV0, gVs, gO0, gOs, iO0, iOs, sK0, sKs, canSet_ok, canOwn_ok, inF0, inFs, asg_name, setAll_cons, setAll_nil, asg_tup, asgs_nil, asgs_cons, ov_var, ov_non, ov_bl, ov_int, ov_str, ov_glob, ov_op, ov_chain, ov_and, ov_or, ov_one, ov_not, ov_ife, ov_tup, ov_lst, ov_call, ov_slice, ov_comp, resolve, Ev.plain, evOp, asgF, isFr, startF, endF, f_is_crossing, b_is_crossing, a, isDict, tyOk, isTy, tyName, evLen, evEq_int, c0, oc_is_crossing_0, al]
      | true =>
        rw [e] at al
        have r : isCr P (.tuple [x, y]) = crA P (toN x) (toN y) := by show ((inR P.length x && inR P.length y) && _) = _; rw [e]; rfl
        rw [r]
        rw [Bool.and_eq_true] at e
        obtain ⟨i, hi, rfl⟩ := inR_int e.1
        obtain ⟨j, hj, rfl⟩ := inR_int e.2
        have cc : T.call (d + 4) 11 none [PD P, .int (i : Int), .int (j : Int)] = .ok (.bool (crA P i j)) [] := c_crosses (d + 3) hi hj
        have i0 : evIdx (.tuple [.int (i : Int), .int (j : Int)]) (.int 0) = some (.int (i : Int)) := rfl
        have i1 : evIdx (.tuple [.int (i : Int), .int (j : Int)]) (.int 1) = some (.int (j : Int)) := rfl
        have r2 : crA P (toN (.int (i : Int))) (toN (.int (j : Int))) = crA P i j := rfl
        rw [r2]
        simp [evSs, e_var, e_non, e_bl, e_int, e_str, e_glob, e_op, e_chain, e_and, e_or, e_one, e_not, e_ife, e_tup, e_lst, e_call, s_set, s_setO, s_setT, s_par, s_aug, s_app, s_sto, s_exp, s_ret, s_ite, s_forr, s_whl, s_raise, s_tryR, s_frz, e_slice, evPs, evO, evI, gV0, gVs, gO0, gOs, iO0, iOs, sK0, sKs, canSet_ok, canOwn_ok, inF0, inFs, asg_name, setAll_cons, setAll_nil, asg_tup, asgs_nil, asgs_cons, ov_var, ov_non, ov_bl, ov_int, ov_str, ov_glob, ov_op, ov_chain, ov_and, ov_or, ov_one, ov_not, ov_ife, ov_tup, ov_lst, ov_call, ov_slice, ov_comp, resolve, Ev.plain, evOp, asgF, isFr, startF, endF, f_is_crossing, b_is_crossing, a, isDict, tyOk, isTy, tyName, evLen, evEq_int, c0, oc_is_crossing_0, al, i0, i1, cc]
    | x :: y :: z :: r, _ =>
      have n : evEq (.int (((x :: y :: z :: r).length : Nat) : Int)) (.int 2) = some false := by rw [evEq_int, decide_eq_false (by simp only [List.length_cons]; omega)]
      have l : evLen (.tuple (x :: y :: z :: r)) = some (.int (((x :: y :: z :: r).length : Nat) : Int)) := rfl
      generalize (((x :: y :: z :: r).length : Nat) : Int) = k at *
      simp [evSs, e_var, e_non, e_bl, e_int, e_str, e_glob, e_op, e_chain, e_and, e_or, e_one, e_not, e_ife, e_tup, e_lst, e_call, s_set, s_setO, s_setT, s_par, s_aug, s_app, s_sto, s_exp, s_ret, s_ite, s_forr, s_whl, s_raise, s_tryR, s_frz, e_slice, evPs, evO, evI, gV0, gVs, gO0, gOs, iO0, iOs, sK0, sKs, canSet_ok, canOwn_ok, inF0, inFs, asg_name, setAll_cons, setAll_nil, asg_tup, asgs_nil, asgs_cons, ov_var, ov_non, ov_bl, ov_int, ov_str, ov_glob, ov_op, ov_chain, ov_and, ov_or, ov_one, ov_not, ov_ife, ov_tup, ov_lst, ov_call, ov_slice, ov_comp, resolve, Ev.plain, evOp, asgF, isFr, startF, endF, f_is_crossing, b_is_crossing, a, isDict, tyOk, isTy, tyName, l, n, isCr]
  | _ => simp [evSs, e_var, e_non, e_bl, e_int, e_str, e_glob, e_op, e_chain, e_and, e_or, e_one, e_not, e_ife, e_tup, e_lst, e_call, s_set, s_setO, s_setT, s_par, s_aug, s_app, s_sto, s_exp, s_ret, s_ite, s_forr, s_whl, s_raise, s_tryR, s_frz, e_slice, evPs, evO, evI, gV0, gVs, gO0, gOs, iO0, iOs, sK0, sKs, canSet_ok, canOwn_ok, inF0, inFs, asg_name, setAll_cons, setAll_nil, asg_tup, asgs_nil, asgs_cons, ov_var, ov_non, ov_bl, ov_int, ov_str, ov_glob, ov_op, ov_chain, ov_and, ov_or, ov_one, ov_not, ov_ife, ov_tup, ov_lst, ov_call, ov_slice, ov_comp, resolve, Ev.plain, evOp, asgF, isFr, startF, endF, f_is_crossing, b_is_crossing, a, isDict, tyOk, isTy, tyName, isCr]
theorem c_lcrosses (d : Nat) {P : List (Nat × Nat)} {v : Dt} (hv : okE v = true) : T.call (d + 5) 22 none [PD P, v] = .ok (.bool (isCr P v)) [] := by
  rw [call_def (fn := f__law_crosses) rfl ⟨rfl, rfl, by decide⟩]
  have ln := len_P P
  cases v with
  | dict _ => cases hv
  | tuple xs =>
    match xs, hv with
    | [], _ => simp [evSs, e_var, e_non, e_bl, e_int, e_str, e_glob, e_op, e_chain, e_and, e_or, e_one, e_not, e_ife, e_tup, e_lst, e_call, s_set, s_setO, s_setT, s_par, s_aug, s_app, s_sto, s_exp, s_ret, s_ite, s_forr, s_whl, s_raise, s_tryR, s_frz, e_slice, evPs, evO, evI, gV0, gVs, gO0, gOs, iO0, iOs, sK0, sKs, canSet_ok, canOwn_ok, inF0, inFs, asg_name, setAll_cons, setAll_nil, asg_tup, asgs_nil, asgs_cons, ov_var, ov_non, ov_bl, ov_int, ov_str, ov_glob, ov_op, ov_chain, ov_and, ov_or, ov_one, ov_not, ov_ife, ov_tup, ov_lst, ov_call, ov_slice, ov_comp, resolve, Ev.plain, evOp, asgF, isFr, startF, endF, f__law_crosses, b__law_crosses, isDict, tyOk, isTy, tyName, evLen, evEq_int, isCr]
    | [x], _ => simp [evSs, e_var, e_non, e_bl, e_int, e_str, e_glob, e_op, e_chain, e_and, e_or, e_one, e_not, e_ife, e_tup, e_lst, e_call, s_set, s_setO, s_setT, s_par, s_aug, s_app, s_sto, s_exp, s_ret, s_ite, s_forr, s_whl, s_raise, s_tryR, s_frz, e_slice, evPs, evO, evI, gV0, gVs, gO0, gOs, iO0, iOs, sK0, sKs, canSet_ok, canOwn_ok, inF0, inFs, asg_name, setAll_cons, setAll_nil, asg_tup, asgs_nil, asgs_cons, ov_var, ov_non, ov_bl, ov_int, ov_str, ov_glob, ov_op, ov_chain, ov_and, ov_or, ov_one, ov_not, ov_ife, ov_tup, ov_lst, ov_call, ov_slice, ov_comp, resolve, Ev.plain, evOp, asgF, isFr, startF, endF, f__law_crosses, b__law_crosses, isDict, tyOk, isTy, tyName, evLen, evEq_int, isCr]
    | [x, y], hv =>
      have hv : (!isDict x && (!isDict y && true)) = true := hv
      simp only [Bool.and_eq_true, Bool.not_eq_true', Bool.and_true] at hv
      have c0 : evE (T.wd (T.call (d + 4)) false false) c__law_crosses_0 [.val (PD P), .val (.tuple [x, y]), .no, .no, .no, .no, .no] = .ok (.list [.bool (inR P.length x), .bool (inR P.length y)], [.val (PD P), .val (.tuple [x, y]), .no, .no, .no, .no, .no]) := by
        unfold c__law_crosses_0
        refine comp_t (xs := [x, y]) (fun x => x) (fun x => .bool (inR P.length x)) ?_ (by simp [sK0, sKs]) fun z hz => ?_
        · simp [evSs, e_var, e_non, e_bl, e_int, e_str, e_glob, e_op, e_chain, e_and, e_or, e_one, e_not, e_ife, e_tup, e_lst, e_call, s_set, s_setO, s_setT, s_par, s_aug, s_app, s_sto, s_exp, s_ret, s_ite, s_forr, s_whl, s_raise, s_tryR, s_frz, e_slice, evPs, evO, evI, gV0, gVs, gO0, gOs, iO0, iOs, sK0, sKs, canSet_ok, canOwn_ok, inF0, inFs, asg_name, setAll_cons, setAll_nil, asg_tup, asgs_nil, asgs_cons, ov_var, ov_non, ov_bl, ov_int, ov_str, ov_glob, ov_op, ov_chain, ov_and, ov_or, ov_one, ov_not, ov_ife, ov_tup, ov_lst, ov_call, ov_slice, ov_comp, resolve, Ev.plain, evOp, asgF, isFr, startF, endF, seqOf]
        · have nd : isDict z = false := by
            rcases List.mem_cons.mp hz with rfl | hz
            · exact hv.1
            · rw [List.mem_singleton.mp hz]; exact hv.2
          cases z with
          | int k => by_cases k0 : 0 ≤ k <;> simp [evSs, e_var, e_non, e_bl, e_int, e_str, e_glob, e_op, e_chain, e_and, e_or, e_one, e_not, e_ife, e_tup, e_lst, e_call, s_set, s_setO, s_setT, s_par, s_aug, s_app, s_sto, s_exp, s_ret, s_ite, s_forr, s_whl, s_raise, s_tryR, s_frz, e_slice, evPs, evO, evI, gV0, gVs, gO0, gOs, iO0, iOs, sK0, sKs, canSet_ok, canOwn_ok, inF0, inFs, asg_name, setAll_cons, setAll_nil, asg_tup, asgs_nil, asgs_cons, ov_var, ov_non, ov_bl, ov_int, ov_str, ov_glob, ov_op, ov_chain, ov_and, ov_or, ov_one, ov_not, ov_ife, ov_tup, ov_lst, ov_call, ov_slice, ov_comp, resolve, Ev.plain, evOp, asgF, isFr, startF, endF, isDict, tyOk, isTy, tyName, evCmp, ln, inR, k0]
          | dict _ => cases nd
          | _ => simp [evSs, e_var, e_non, e_bl, e_int, e_str, e_glob, e_op, e_chain, e_and, e_or, e_one, e_not, e_ife, e_tup, e_lst, e_call, s_set, s_setO, s_setT, s_par, s_aug, s_app, s_sto, s_exp, s_ret, s_ite, s_forr, s_whl, s_raise, s_tryR, s_frz, e_slice, evPs, evO, evI, gV0, gVs, gO0, gOs, iO0, iOs, sK0, sKs, canSet_ok, canOwn_ok, inF0, inFs, asg_name, setAll_cons, setAll_nil, asg_tup, asgs_nil, asgs_cons, ov_var, ov_non, ov_bl, ov_int, ov_str, ov_glob, ov_op, ov_chain, ov_and, ov_or, ov_one, ov_not, ov_ife, ov_tup, ov_lst, ov_call, ov_slice, ov_comp, resolve, Ev.plain, evOp, asgF, isFr, startF, endF, isDict, tyOk, isTy, tyName, inR]
      have al := all2 (inR P.length) x y
      cases e : (inR P.length x && inR P.length y) with
      | false =>
        rw [e] at al
        have r : isCr P (.tuple [x, y]) = false := by show ((inR P.length x && inR P.length y) && _) = false; rw [e]; rfl
        rw [r]
        simp [evSs, e_var, e_non, e_bl, e_int, e_str, e_glob, e_op, e_chain, e_and, e_or, e_one, e_not, e_ife, e_tup, e_lst, e_call, s_set, s_setO, s_setT, s_par, s_aug, s_app, s_sto, s_exp, s_ret, s_ite, s_forr, s_whl, s_raise, s_tryR, s_frz, e_slice, evPs, evO, evI, gV0, gVs, gO0, gOs, iO0, iOs, sK0, sKs, canSet_ok, canOwn_ok, inF0, inFs, asg_name, setAll_cons, setAll_nil, asg_tup, asgs_nil, asgs_cons, ov_var, ov_non, ov_bl, ov_int, ov_str, ov_glob, ov_op, ov_chain, ov_and, ov_or, ov_one, ov_not, ov_ife, ov_tup, ov_lst, ov_call, ov_slice, ov_comp, resolve, Ev.plain, evOp, asgF, isFr, startF, endF, f__law_crosses, b__law_crosses, isDict, tyOk, isTy, tyName, evLen, evEq_int, c0, oc__law_crosses_0, al]
      | true =>
        rw [e] at al
        have r : isCr P (.tuple [x, y]) = crA P (toN x) (toN y) := by show ((inR P.length x && inR P.length y) && _) = _; rw [e]; rfl
        rw [r]
        rw [Bool.and_eq_true] at e
        obtain ⟨i, hi, rfl⟩ := inR_int e.1
        obtain ⟨j, hj, rfl⟩ := inR_int e.2
        have i0 : evIdx (.tuple [.int (i : Int), .int (j : Int)]) (.int 0) = some (.int (i : Int)) := rfl
        have i1 : evIdx (.tuple [.int (i : Int), .int (j : Int)]) (.int 1) = some (.int (j : Int)) := rfl
        have r2 : crA P (toN (.int (i : Int))) (toN (.int (j : Int))) = crA P i j := rfl
        rw [r2]
        unfold crA
        have x1 := idx_P hi
        have x2 := idx_P hj
        generalize P.getD i (0, 0) = p at *
        generalize P.getD j (0, 0) = q at *
        have a1 := dist_i p.1 q.2
        have a2 := dist_i q.1 p.2
        have a3 := dist_i p.1 p.2
        have a4 := dist_i q.1 q.2
        have ad : ∀ a b : Nat, evAdd (.int (a : Int)) (.int (b : Int)) = some (.int ((a + b : Nat) : Int)) := fun a b => rfl
        have e : decide (((dist p.1 q.2 + dist q.1 p.2 : Nat) : Int) < ((dist p.1 p.2 + dist q.1 q.2 : Nat) : Int)) = cr p q := by
          unfold cr
          rw [decide_eq_decide, dist_comm p.1 q.2, dist_comm q.1 p.2, dist_comm p.1 p.2, dist_comm q.1 q.2]
          omega
        have cm : evCmp (fun i j => decide (i < j)) (.int ((dist p.1 q.2 + dist q.1 p.2 : Nat) : Int)) (.int ((dist p.1 p.2 + dist q.1 q.2 : Nat) : Int)) = some (.bool (cr p q)) := by rw [← e]; rfl
        unfold pr at x1 x2
        generalize dist p.1 q.2 = m1 at *
        generalize dist q.1 p.2 = m2 at *
        generalize dist p.1 p.2 = m3 at *
        generalize dist q.1 q.2 = m4 at *
        simp [evSs, e_var, e_non, e_bl, e_int, e_str, e_glob, e_op, e_chain, e_and, e_or, e_one, e_not, e_ife, e_tup, e_lst, e_call, s_set, s_setO, s_setT, s_par, s_aug, s_app, s_sto, s_exp, s_ret, s_ite, s_forr, s_whl, s_raise, s_tryR, s_frz, e_slice, evPs, evO, evI, gV0, gVs, gO0, gOs, iO0, iOs, sK0, sKs, canSet_ok, canOwn_ok, inF0, inFs, asg_name, setAll_cons, setAll_nil, asg_tup, asgs_nil, asgs_cons, ov_var, ov_non, ov_bl, ov_int, ov_str, ov_glob, ov_op, ov_chain, ov_and, ov_or, ov_one, ov_not, ov_ife, ov_tup, ov_lst, ov_call, ov_slice, ov_comp, resolve, Ev.plain, evOp, asgF, isFr, startF, endF, f__law_crosses, b__law_crosses, isDict, tyOk, isTy, tyName, evLen, evEq_int, c0, oc__law_crosses_0, al, i0, i1, x1, x2, sub_i, a1, a2, a3, a4, -Int.natCast_add, ad, cm]
    | x :: y :: z :: r, _ =>
      have n : evEq (.int (((x :: y :: z :: r).length : Nat) : Int)) (.int 2) = some false := by rw [evEq_int, decide_eq_false (by simp only [List.length_cons]; omega)]
      have l : evLen (.tuple (x :: y :: z :: r)) = some (.int (((x :: y :: z :: r).length : Nat) : Int)) := rfl
      generalize (((x :: y :: z :: r).length : Nat) : Int) = k at *
      simp [evSs, e_var, e_non, e_bl, e_int, e_str, e_glob, e_op, e_chain, e_and, e_or, e_one, e_not, e_ife, e_tup, e_lst, e_call, s_set, s_setO, s_setT, s_par, s_aug, s_app, s_sto, s_exp, s_ret, s_ite, s_forr, s_whl, s_raise, s_tryR, s_frz, e_slice, evPs, evO, evI, gV0, gVs, gO0, gOs, iO0, iOs, sK0, sKs, canSet_ok, canOwn_ok, inF0, inFs, asg_name, setAll_cons, setAll_nil, asg_tup, asgs_nil, asgs_cons, ov_var, ov_non, ov_bl, ov_int, ov_str, ov_glob, ov_op, ov_chain, ov_and, ov_or, ov_one, ov_not, ov_ife, ov_tup, ov_lst, ov_call, ov_slice, ov_comp, resolve, Ev.plain, evOp, asgF, isFr, startF, endF, f__law_crosses, b__law_crosses, isDict, tyOk, isTy, tyName, l, n, isCr]
  | _ => simp [evSs, e_var, e_non, e_bl, e_int, e_str, e_glob, e_op, e_chain, e_and, e_or, e_one, e_not, e_ife, e_tup, e_lst, e_call, s_set, s_setO, s_setT, s_par, s_aug, s_app, s_sto, s_exp, s_ret, s_ite, s_forr, s_whl, s_raise, s_tryR, s_frz, e_slice, evPs, evO, evI, gV0, gVs, gO0, gOs, iO0, iOs, sK0, sKs, canSet_ok, canOwn_ok, inF0, inFs, asg_name, setAll_cons, setAll_nil, asg_tup, asgs_nil, asgs_cons, ov_var, ov_non, ov_bl, ov_int, ov_str, ov_glob, ov_op, ov_chain, ov_and, ov_or, ov_one, ov_not, ov_ife, ov_tup, ov_lst, ov_call, ov_slice, ov_comp, resolve, Ev.plain, evOp, asgF, isFr, startF, endF, f__law_crosses, b__law_crosses, isDict, tyOk, isTy, tyName, isCr]
/-! ### told -/
abbrev MAL : Dt := .str (Str.ofString "<malformed>")
def dues (P : List (Nat × Nat)) : Nat → Dt
  | 0 => .int (cost P : Int)
  | 1 => .int (cost (stl P) : Int)
  | 2 => .int ((cost P : Int) - (cost (stl P) : Int))
  | _ => optP (prs P).head?
theorem told_ok (d : Nat) {P : List (Nat × Nat)} (h : IsP P) (k : Nat) (hk : k < 4) : T.call (d + 6) 23 none [.int (k : Int), PD P] = .ok (dues P k) [] := by
  rw [call_def (fn := f__law_told) rfl ⟨rfl, rfl, by decide⟩]
  match k, hk with
  | 0, _ => have c := c_change d h; simp [evSs, e_var, e_non, e_bl, e_int, e_str, e_glob, e_op, e_chain, e_and, e_or, e_one, e_not, e_ife, e_tup, e_lst, e_call, s_set, s_setO, s_setT, s_par, s_aug, s_app, s_sto, s_exp, s_ret, s_ite, s_forr, s_whl, s_raise, s_tryR, s_frz, e_slice, evPs, evO, evI, gV0, gVs, gO0, gOs, iO0, iOs, sK0, sKs, canSet_ok, canOwn_ok, inF0, inFs, asg_name, setAll_cons, setAll_nil, asg_tup, asgs_nil, asgs_cons, ov_var, ov_non, ov_bl, ov_int, ov_str, ov_glob, ov_op, ov_chain, ov_and, ov_or, ov_one, ov_not, ov_ife, ov_tup, ov_lst, ov_call, ov_slice, ov_comp, resolve, Ev.plain, evOp, asgF, isFr, startF, endF, f__law_told, b__law_told, c, evEq_int, dues]
  | 1, _ => have c := c_structure d h; simp [evSs, e_var, e_non, e_bl, e_int, e_str, e_glob, e_op, e_chain, e_and, e_or, e_one, e_not, e_ife, e_tup, e_lst, e_call, s_set, s_setO, s_setT, s_par, s_aug, s_app, s_sto, s_exp, s_ret, s_ite, s_forr, s_whl, s_raise, s_tryR, s_frz, e_slice, evPs, evO, evI, gV0, gVs, gO0, gOs, iO0, iOs, sK0, sKs, canSet_ok, canOwn_ok, inF0, inFs, asg_name, setAll_cons, setAll_nil, asg_tup, asgs_nil, asgs_cons, ov_var, ov_non, ov_bl, ov_int, ov_str, ov_glob, ov_op, ov_chain, ov_and, ov_or, ov_one, ov_not, ov_ife, ov_tup, ov_lst, ov_call, ov_slice, ov_comp, resolve, Ev.plain, evOp, asgF, isFr, startF, endF, f__law_told, b__law_told, c, evEq_int, dues]
  | 2, _ => have c := c_exchange d h; simp [evSs, e_var, e_non, e_bl, e_int, e_str, e_glob, e_op, e_chain, e_and, e_or, e_one, e_not, e_ife, e_tup, e_lst, e_call, s_set, s_setO, s_setT, s_par, s_aug, s_app, s_sto, s_exp, s_ret, s_ite, s_forr, s_whl, s_raise, s_tryR, s_frz, e_slice, evPs, evO, evI, gV0, gVs, gO0, gOs, iO0, iOs, sK0, sKs, canSet_ok, canOwn_ok, inF0, inFs, asg_name, setAll_cons, setAll_nil, asg_tup, asgs_nil, asgs_cons, ov_var, ov_non, ov_bl, ov_int, ov_str, ov_glob, ov_op, ov_chain, ov_and, ov_or, ov_one, ov_not, ov_ife, ov_tup, ov_lst, ov_call, ov_slice, ov_comp, resolve, Ev.plain, evOp, asgF, isFr, startF, endF, f__law_told, b__law_told, c, evEq_int, dues]
  | 3, _ => have c := c_crossing d h; simp [evSs, e_var, e_non, e_bl, e_int, e_str, e_glob, e_op, e_chain, e_and, e_or, e_one, e_not, e_ife, e_tup, e_lst, e_call, s_set, s_setO, s_setT, s_par, s_aug, s_app, s_sto, s_exp, s_ret, s_ite, s_forr, s_whl, s_raise, s_tryR, s_frz, e_slice, evPs, evO, evI, gV0, gVs, gO0, gOs, iO0, iOs, sK0, sKs, canSet_ok, canOwn_ok, inF0, inFs, asg_name, setAll_cons, setAll_nil, asg_tup, asgs_nil, asgs_cons, ov_var, ov_non, ov_bl, ov_int, ov_str, ov_glob, ov_op, ov_chain, ov_and, ov_or, ov_one, ov_not, ov_ife, ov_tup, ov_lst, ov_call, ov_slice, ov_comp, resolve, Ev.plain, evOp, asgF, isFr, startF, endF, f__law_told, b__law_told, c, evEq_int, dues]
theorem told_bad (d : Nat) {v : Dt} (h : okV v = true) (hp : isPan v = false) (k : Nat) (hk : k < 5) : T.call (d + 6) 23 none [.int (k : Int), v] = .ok MAL [] := by
  rw [call_def (fn := f__law_told) rfl ⟨rfl, rfl, by decide⟩]
  have c := c_check d v h
  rw [hp] at c
  have c : T.call (d + 4) 3 none [v] = .exc 0 := c
  have e7 : T.call (d + 5) 7 none [v] = .exc 0 := by
    rw [call_def (fn := f_change) rfl ⟨rfl, rfl, by decide⟩]
    simp [evSs, e_var, e_non, e_bl, e_int, e_str, e_glob, e_op, e_chain, e_and, e_or, e_one, e_not, e_ife, e_tup, e_lst, e_call, s_set, s_setO, s_setT, s_par, s_aug, s_app, s_sto, s_exp, s_ret, s_ite, s_forr, s_whl, s_raise, s_tryR, s_frz, e_slice, evPs, evO, evI, gV0, gVs, gO0, gOs, iO0, iOs, sK0, sKs, canSet_ok, canOwn_ok, inF0, inFs, asg_name, setAll_cons, setAll_nil, asg_tup, asgs_nil, asgs_cons, ov_var, ov_non, ov_bl, ov_int, ov_str, ov_glob, ov_op, ov_chain, ov_and, ov_or, ov_one, ov_not, ov_ife, ov_tup, ov_lst, ov_call, ov_slice, ov_comp, resolve, Ev.plain, evOp, asgF, isFr, startF, endF, f_change, b_change, c]
  have e9 : T.call (d + 5) 9 none [v] = .exc 0 := by
    rw [call_def (fn := f_structure) rfl ⟨rfl, rfl, by decide⟩]
    simp [evSs, e_var, e_non, e_bl, e_int, e_str, e_glob, e_op, e_chain, e_and, e_or, e_one, e_not, e_ife, e_tup, e_lst, e_call, s_set, s_setO, s_setT, s_par, s_aug, s_app, s_sto, s_exp, s_ret, s_ite, s_forr, s_whl, s_raise, s_tryR, s_frz, e_slice, evPs, evO, evI, gV0, gVs, gO0, gOs, iO0, iOs, sK0, sKs, canSet_ok, canOwn_ok, inF0, inFs, asg_name, setAll_cons, setAll_nil, asg_tup, asgs_nil, asgs_cons, ov_var, ov_non, ov_bl, ov_int, ov_str, ov_glob, ov_op, ov_chain, ov_and, ov_or, ov_one, ov_not, ov_ife, ov_tup, ov_lst, ov_call, ov_slice, ov_comp, resolve, Ev.plain, evOp, asgF, isFr, startF, endF, f_structure, b_structure, c]
  have e10 : T.call (d + 5) 10 none [v] = .exc 0 := by
    rw [call_def (fn := f_exchange) rfl ⟨rfl, rfl, by decide⟩]
    simp [evSs, e_var, e_non, e_bl, e_int, e_str, e_glob, e_op, e_chain, e_and, e_or, e_one, e_not, e_ife, e_tup, e_lst, e_call, s_set, s_setO, s_setT, s_par, s_aug, s_app, s_sto, s_exp, s_ret, s_ite, s_forr, s_whl, s_raise, s_tryR, s_frz, e_slice, evPs, evO, evI, gV0, gVs, gO0, gOs, iO0, iOs, sK0, sKs, canSet_ok, canOwn_ok, inF0, inFs, asg_name, setAll_cons, setAll_nil, asg_tup, asgs_nil, asgs_cons, ov_var, ov_non, ov_bl, ov_int, ov_str, ov_glob, ov_op, ov_chain, ov_and, ov_or, ov_one, ov_not, ov_ife, ov_tup, ov_lst, ov_call, ov_slice, ov_comp, resolve, Ev.plain, evOp, asgF, isFr, startF, endF, f_exchange, b_exchange, c]
  have e12 : T.call (d + 5) 12 none [v] = .exc 0 := by
    rw [call_def (fn := f_crossing) rfl ⟨rfl, rfl, by decide⟩]
    simp [evSs, e_var, e_non, e_bl, e_int, e_str, e_glob, e_op, e_chain, e_and, e_or, e_one, e_not, e_ife, e_tup, e_lst, e_call, s_set, s_setO, s_setT, s_par, s_aug, s_app, s_sto, s_exp, s_ret, s_ite, s_forr, s_whl, s_raise, s_tryR, s_frz, e_slice, evPs, evO, evI, gV0, gVs, gO0, gOs, iO0, iOs, sK0, sKs, canSet_ok, canOwn_ok, inF0, inFs, asg_name, setAll_cons, setAll_nil, asg_tup, asgs_nil, asgs_cons, ov_var, ov_non, ov_bl, ov_int, ov_str, ov_glob, ov_op, ov_chain, ov_and, ov_or, ov_one, ov_not, ov_ife, ov_tup, ov_lst, ov_call, ov_slice, ov_comp, resolve, Ev.plain, evOp, asgF, isFr, startF, endF, f_crossing, b_crossing, c]
  have e13 : T.call (d + 5) 13 none [v, .none] = .exc 0 := by
    rw [call_def (fn := f_is_crossing) rfl ⟨rfl, rfl, by decide⟩]
    simp [evSs, e_var, e_non, e_bl, e_int, e_str, e_glob, e_op, e_chain, e_and, e_or, e_one, e_not, e_ife, e_tup, e_lst, e_call, s_set, s_setO, s_setT, s_par, s_aug, s_app, s_sto, s_exp, s_ret, s_ite, s_forr, s_whl, s_raise, s_tryR, s_frz, e_slice, evPs, evO, evI, gV0, gVs, gO0, gOs, iO0, iOs, sK0, sKs, canSet_ok, canOwn_ok, inF0, inFs, asg_name, setAll_cons, setAll_nil, asg_tup, asgs_nil, asgs_cons, ov_var, ov_non, ov_bl, ov_int, ov_str, ov_glob, ov_op, ov_chain, ov_and, ov_or, ov_one, ov_not, ov_ife, ov_tup, ov_lst, ov_call, ov_slice, ov_comp, resolve, Ev.plain, evOp, asgF, isFr, startF, endF, f_is_crossing, b_is_crossing, c]
  match k, hk with
  | 0, _ => simp [evSs, e_var, e_non, e_bl, e_int, e_str, e_glob, e_op, e_chain, e_and, e_or, e_one, e_not, e_ife, e_tup, e_lst, e_call, s_set, s_setO, s_setT, s_par, s_aug, s_app, s_sto, s_exp, s_ret, s_ite, s_forr, s_whl, s_raise, s_tryR, s_frz, e_slice, evPs, evO, evI, gV0, gVs, gO0, gOs, iO0, iOs, sK0, sKs, canSet_ok, canOwn_ok, inF0, inFs, asg_name, setAll_cons, setAll_nil, asg_tup, asgs_nil, asgs_cons, ov_var, ov_non, ov_bl, ov_int, ov_str, ov_glob, ov_op, ov_chain, ov_and, ov_or, ov_one, ov_not, ov_ife, ov_tup, ov_lst, ov_call, ov_slice, ov_comp, resolve, Ev.plain, evOp, asgF, isFr, startF, endF, f__law_told, b__law_told, e7, evEq_int]
  | 1, _ => simp [evSs, e_var, e_non, e_bl, e_int, e_str, e_glob, e_op, e_chain, e_and, e_or, e_one, e_not, e_ife, e_tup, e_lst, e_call, s_set, s_setO, s_setT, s_par, s_aug, s_app, s_sto, s_exp, s_ret, s_ite, s_forr, s_whl, s_raise, s_tryR, s_frz, e_slice, evPs, evO, evI, gV0, gVs, gO0, gOs, iO0, iOs, sK0, sKs, canSet_ok, canOwn_ok, inF0, inFs, asg_name, setAll_cons, setAll_nil, asg_tup, asgs_nil, asgs_cons, ov_var, ov_non, ov_bl, ov_int, ov_str, ov_glob, ov_op, ov_chain, ov_and, ov_or, ov_one, ov_not, ov_ife, ov_tup, ov_lst, ov_call, ov_slice, ov_comp, resolve, Ev.plain, evOp, asgF, isFr, startF, endF, f__law_told, b__law_told, e9, evEq_int]
  | 2, _ => simp [evSs, e_var, e_non, e_bl, e_int, e_str, e_glob, e_op, e_chain, e_and, e_or, e_one, e_not, e_ife, e_tup, e_lst, e_call, s_set, s_setO, s_setT, s_par, s_aug, s_app, s_sto, s_exp, s_ret, s_ite, s_forr, s_whl, s_raise, s_tryR, s_frz, e_slice, evPs, evO, evI, gV0, gVs, gO0, gOs, iO0, iOs, sK0, sKs, canSet_ok, canOwn_ok, inF0, inFs, asg_name, setAll_cons, setAll_nil, asg_tup, asgs_nil, asgs_cons, ov_var, ov_non, ov_bl, ov_int, ov_str, ov_glob, ov_op, ov_chain, ov_and, ov_or, ov_one, ov_not, ov_ife, ov_tup, ov_lst, ov_call, ov_slice, ov_comp, resolve, Ev.plain, evOp, asgF, isFr, startF, endF, f__law_told, b__law_told, e10, evEq_int]
  | 3, _ => simp [evSs, e_var, e_non, e_bl, e_int, e_str, e_glob, e_op, e_chain, e_and, e_or, e_one, e_not, e_ife, e_tup, e_lst, e_call, s_set, s_setO, s_setT, s_par, s_aug, s_app, s_sto, s_exp, s_ret, s_ite, s_forr, s_whl, s_raise, s_tryR, s_frz, e_slice, evPs, evO, evI, gV0, gVs, gO0, gOs, iO0, iOs, sK0, sKs, canSet_ok, canOwn_ok, inF0, inFs, asg_name, setAll_cons, setAll_nil, asg_tup, asgs_nil, asgs_cons, ov_var, ov_non, ov_bl, ov_int, ov_str, ov_glob, ov_op, ov_chain, ov_and, ov_or, ov_one, ov_not, ov_ife, ov_tup, ov_lst, ov_call, ov_slice, ov_comp, resolve, Ev.plain, evOp, asgF, isFr, startF, endF, f__law_told, b__law_told, e12, evEq_int]
  | 4, _ => simp [evSs, e_var, e_non, e_bl, e_int, e_str, e_glob, e_op, e_chain, e_and, e_or, e_one, e_not, e_ife, e_tup, e_lst, e_call, s_set, s_setO, s_setT, s_par, s_aug, s_app, s_sto, s_exp, s_ret, s_ite, s_forr, s_whl, s_raise, s_tryR, s_frz, e_slice, evPs, evO, evI, gV0, gVs, gO0, gOs, iO0, iOs, sK0, sKs, canSet_ok, canOwn_ok, inF0, inFs, asg_name, setAll_cons, setAll_nil, asg_tup, asgs_nil, asgs_cons, ov_var, ov_non, ov_bl, ov_int, ov_str, ov_glob, ov_op, ov_chain, ov_and, ov_or, ov_one, ov_not, ov_ife, ov_tup, ov_lst, ov_call, ov_slice, ov_comp, resolve, Ev.plain, evOp, asgF, isFr, startF, endF, f__law_told, b__law_told, e13, evEq_int]
end K79


set_option Elab.async false
set_option linter.all false
set_option maxRecDepth 100000
set_option maxHeartbeats 1000000
set_option exponentiation.threshold 500
namespace K79
open PySem Ev RatL M79
/-! ### a panel drawn -/
theorem zipD (xs ys : List Nat) : zipOk (LL xs) (LL ys) = some ((xs.zip ys).map pr) := congrArg some (zip_nd xs ys)
theorem c_panel (d : Nat) {o : List Dt} (w : OkW o) {people : Nat} (p1 : 1 ≤ people) (p2 : people ≤ 30) : ∃ (P : List (Nat × Nat)) (o' : List Dt), IsP P ∧ P.length ≤ people ∧ OkW o' ∧ (∀ p ∈ P, p.1 ≤ 1010 ∧ p.2 ≤ 1010) ∧
    T.call (d + 2) 18 (some o) [.int (people : Int)] = .ok (PD P) o' := by
  rw [call_def (fn := f__law_panel) rfl ⟨rfl, rfl, by decide⟩]
  obtain ⟨v, o1, v1, w1, e1⟩ := c_take d w 3 (by decide) (by decide)
  have e1 : T.call (d + 1) 16 (some o) [.int 3] = .ok (.int (v : Int)) o1 := e1
  obtain ⟨hi, g1, g2, g3⟩ : ∃ hi : Nat, 1 ≤ hi ∧ hi ≤ 1000 ∧ evIdx (.list [.int 4, .int 12, .int 1000]) (.int (v : Int)) = some (.int (hi : Int)) := by
    match v, v1 with
    | 0, _ => exact ⟨4, by decide, by decide, rfl⟩
    | 1, _ => exact ⟨12, by decide, by decide, rfl⟩
    | 2, _ => exact ⟨1000, by decide, by decide, rfl⟩
  obtain ⟨n, o2, n1, w2, e2⟩ := c_take d w1 people (by omega) (Nat.lt_of_le_of_lt p2 (by decide))
  have e2 : T.call (d + 1) 16 (some o1) [.int (people : Int)] = .ok (.int (n : Int)) o2 := e2
  have hr : rngOk 0 (1 + (n : Int)) = some ((List.range (1 + n)).map fun (i : Nat) => PyData.int (i : Int)) := by
    rw [show (1 : Int) + (n : Int) = ((1 + n : Nat) : Int) by omega]
    exact rng_0 (by omega)
  have c0 : ∃ (b : List Nat) (o3 : List Dt), b.length = (List.range (1 + n)).length ∧ (∀ r ∈ b, 1 ≤ r ∧ r ≤ hi) ∧ OkW o3 ∧ evE (T.wd (T.call (d + 1)) true false) c__law_panel_0 [.own o1, .val (.int (people : Int)), .val (.int (hi : Int)), .no, .no, .no, .no, .no, .no] = .ok (LL b, [.own o3, .val (.int (people : Int)), .val (.int (hi : Int)), .no, .no, .no, .no, .no, .no]) := by
    unfold c__law_panel_0
    exact comp_draw (W := T.wd (T.call (d + 1)) true false) (v := 5) (xs := List.range (1 + n)) (fun (i : Nat) => PyData.int (i : Int)) (fun (r : Nat) => PyData.int (r : Int)) (fun r => 1 ≤ r ∧ r ≤ hi) OkW (fun o => [.own o, .val (.int (people : Int)), .val (.int (hi : Int)), .no, .no, .no, .no, .no, .no]) w2
      (by simp [evSs, e_var, e_non, e_bl, e_int, e_str, e_glob, e_op, e_chain, e_and, e_or, e_one, e_not, e_ife, e_tup, e_lst, e_call, s_set, s_setO, s_setT, s_par, s_aug, s_app, s_sto, s_exp, s_ret, s_ite, s_forr, s_whl, s_raise, s_tryR, s_frz, e_slice, evPs, evO, evI, gV0, gVs, gO0, gOs, iO0, iOs, sK0, sKs, canSet_ok, canOwn_ok, inF0, inFs, asg_name, setAll_cons, setAll_nil, asg_tup, asgs_nil, asgs_cons, ov_var, ov_non, ov_bl, ov_int, ov_str, ov_glob, ov_op, ov_chain, ov_and, ov_or, ov_one, ov_not, ov_ife, ov_tup, ov_lst, ov_call, ov_slice, ov_comp, resolve, Ev.plain, evOp, asgF, isFr, startF, endF, e2, evAdd, hr]) (fun _ => by simp [sK0, sKs]) (fun _ _ => rfl) (fun x _ o ho => by
        obtain ⟨u, o', u1, w', eu⟩ := c_take d ho hi (by omega) (Nat.lt_of_le_of_lt g2 (by decide))
        have eu : T.call (d + 1) 16 (some o) [.int (hi : Int)] = .ok (.int (u : Int)) o' := eu
        exact ⟨1 + u, o', by omega, w', by simp [evSs, e_var, e_non, e_bl, e_int, e_str, e_glob, e_op, e_chain, e_and, e_or, e_one, e_not, e_ife, e_tup, e_lst, e_call, s_set, s_setO, s_setT, s_par, s_aug, s_app, s_sto, s_exp, s_ret, s_ite, s_forr, s_whl, s_raise, s_tryR, s_frz, e_slice, evPs, evO, evI, gV0, gVs, gO0, gOs, iO0, iOs, sK0, sKs, canSet_ok, canOwn_ok, inF0, inFs, asg_name, setAll_cons, setAll_nil, asg_tup, asgs_nil, asgs_cons, ov_var, ov_non, ov_bl, ov_int, ov_str, ov_glob, ov_op, ov_chain, ov_and, ov_or, ov_one, ov_not, ov_ife, ov_tup, ov_lst, ov_call, ov_slice, ov_comp, resolve, Ev.plain, evOp, asgF, isFr, startF, endF, eu, evAdd]⟩)
  obtain ⟨b, o3, lb, hb, w3, e3⟩ := c0
  rw [List.length_range] at lb
  have c1 : ∃ (a : List Nat) (o4 : List Dt), a.length = b.length ∧ (∀ r ∈ a, 1 ≤ r ∧ r ≤ 1010) ∧ OkW o4 ∧ evE (T.wd (T.call (d + 1)) true false) c__law_panel_1 [.own o3, .val (.int (people : Int)), .val (.int (hi : Int)), .val (LL b), .no, .no, .no, .no, .no] = .ok (LL a, [.own o4, .val (.int (people : Int)), .val (.int (hi : Int)), .val (LL b), .no, .no, .no, .no, .no]) := by
    unfold c__law_panel_1
    exact comp_draw (W := T.wd (T.call (d + 1)) true false) (v := 6) (xs := b) (fun (i : Nat) => PyData.int (i : Int)) (fun (r : Nat) => PyData.int (r : Int)) (fun r => 1 ≤ r ∧ r ≤ 1010) OkW (fun o => [.own o, .val (.int (people : Int)), .val (.int (hi : Int)), .val (LL b), .no, .no, .no, .no, .no]) w3
      (by simp [evSs, e_var, e_non, e_bl, e_int, e_str, e_glob, e_op, e_chain, e_and, e_or, e_one, e_not, e_ife, e_tup, e_lst, e_call, s_set, s_setO, s_setT, s_par, s_aug, s_app, s_sto, s_exp, s_ret, s_ite, s_forr, s_whl, s_raise, s_tryR, s_frz, e_slice, evPs, evO, evI, gV0, gVs, gO0, gOs, iO0, iOs, sK0, sKs, canSet_ok, canOwn_ok, inF0, inFs, asg_name, setAll_cons, setAll_nil, asg_tup, asgs_nil, asgs_cons, ov_var, ov_non, ov_bl, ov_int, ov_str, ov_glob, ov_op, ov_chain, ov_and, ov_or, ov_one, ov_not, ov_ife, ov_tup, ov_lst, ov_call, ov_slice, ov_comp, resolve, Ev.plain, evOp, asgF, isFr, startF, endF, seq_L, ND]) (fun _ => by simp [sK0, sKs]) (fun _ _ => rfl) (fun x hx o ho => by
        have bx := hb x hx
        obtain ⟨k, o', k1, w', ek⟩ := c_take d ho 3 (by decide) (by decide)
        have ek : T.call (d + 1) 16 (some o) [.int 3] = .ok (.int (k : Int)) o' := ek
        by_cases hk : k = 0
        · subst hk
          have ek : T.call (d + 1) 16 (some o) [.int 3] = .ok (.int 0) o' := ek
          obtain ⟨u, o2', u1, w2', eu⟩ := c_take d w' hi (by omega) (Nat.lt_of_le_of_lt g2 (by decide))
          have eu : T.call (d + 1) 16 (some o') [.int (hi : Int)] = .ok (.int (u : Int)) o2' := eu
          exact ⟨1 + u, o2', by omega, w2', by simp [evSs, e_var, e_non, e_bl, e_int, e_str, e_glob, e_op, e_chain, e_and, e_or, e_one, e_not, e_ife, e_tup, e_lst, e_call, s_set, s_setO, s_setT, s_par, s_aug, s_app, s_sto, s_exp, s_ret, s_ite, s_forr, s_whl, s_raise, s_tryR, s_frz, e_slice, evPs, evO, evI, gV0, gVs, gO0, gOs, iO0, iOs, sK0, sKs, canSet_ok, canOwn_ok, inF0, inFs, asg_name, setAll_cons, setAll_nil, asg_tup, asgs_nil, asgs_cons, ov_var, ov_non, ov_bl, ov_int, ov_str, ov_glob, ov_op, ov_chain, ov_and, ov_or, ov_one, ov_not, ov_ife, ov_tup, ov_lst, ov_call, ov_slice, ov_comp, resolve, Ev.plain, evOp, asgF, isFr, startF, endF, ek, evCmp, eu, evAdd]⟩
        · have k0 : 0 < k := by omega
          obtain ⟨u, o2', u1, w2', eu⟩ := c_take d w' 5 (by decide) (by decide)
          have eu : T.call (d + 1) 16 (some o') [.int 5] = .ok (.int (u : Int)) o2' := eu
          have mx : evInt2 (fun _ _ => true) (fun i j => if j > i then j else i) (.int 1) (.int ((x : Int) + (u : Int) - 2)) = some (.int ((max 1 (x + u - 2) : Nat) : Int)) := by
            show some (PyData.int (if (x : Int) + (u : Int) - 2 > 1 then (x : Int) + (u : Int) - 2 else 1)) = _
            congr 2
            split <;> omega
          have ad : evAdd (.int (x : Int)) (.int (u : Int)) = some (.int ((x : Int) + (u : Int))) := rfl
          exact ⟨max 1 (x + u - 2), o2', by omega, w2', by simp [evSs, e_var, e_non, e_bl, e_int, e_str, e_glob, e_op, e_chain, e_and, e_or, e_one, e_not, e_ife, e_tup, e_lst, e_call, s_set, s_setO, s_setT, s_par, s_aug, s_app, s_sto, s_exp, s_ret, s_ite, s_forr, s_whl, s_raise, s_tryR, s_frz, e_slice, evPs, evO, evI, gV0, gVs, gO0, gOs, iO0, iOs, sK0, sKs, canSet_ok, canOwn_ok, inF0, inFs, asg_name, setAll_cons, setAll_nil, asg_tup, asgs_nil, asgs_cons, ov_var, ov_non, ov_bl, ov_int, ov_str, ov_glob, ov_op, ov_chain, ov_and, ov_or, ov_one, ov_not, ov_ife, ov_tup, ov_lst, ov_call, ov_slice, ov_comp, resolve, Ev.plain, evOp, asgF, isFr, startF, endF, ek, evCmp, k0, eu, ad, sub_i, mx]⟩)
  obtain ⟨a, o4, la, ha, w4, e4⟩ := c1
  obtain ⟨q, o5, q1, w5, e5⟩ := c_take d w4 4 (by decide) (by decide)
  have e5 : T.call (d + 1) 16 (some o4) [.int 4] = .ok (.int (q : Int)) o5 := e5
  have fin : ∀ c : List Nat, c.length = b.length → (∀ r ∈ c, 1 ≤ r ∧ r ≤ 1010) → IsP (b.zip c) ∧ (b.zip c).length ≤ people ∧ (∀ p ∈ b.zip c, p.1 ≤ 1010 ∧ p.2 ≤ 1010) := fun c lc hc => by
    have ln : (b.zip c).length = b.length := by rw [List.length_zip]; omega
    refine ⟨⟨by omega, by omega, fun p hp => ?_⟩, by omega, fun p hp => ?_⟩
    · have h1 := hb _ (List.of_mem_zip (show (p.1, p.2) ∈ b.zip c from hp)).1
      have h2 := hc _ (List.of_mem_zip (show (p.1, p.2) ∈ b.zip c from hp)).2
      omega
    · have h1 := hb _ (List.of_mem_zip (show (p.1, p.2) ∈ b.zip c from hp)).1
      have h2 := hc _ (List.of_mem_zip (show (p.1, p.2) ∈ b.zip c from hp)).2
      omega
  have cz : ∀ (c : List Nat), evE (T.wd (T.call (d + 1)) true false) c__law_panel_2 [.own o5, .val (.int (people : Int)), .val (.int (hi : Int)), .val (LL b), .val (LL c), .no, .no, .no, .no] = .ok (.list ((b.zip c).map pr), [.own o5, .val (.int (people : Int)), .val (.int (hi : Int)), .val (LL b), .val (LL c), .no, .no, .no, .no]) := fun c => by
    unfold c__law_panel_2
    refine comp_pair0 (by decide) (xs := b.zip c) (fun p => PyData.int (p.1 : Int)) (fun p => PyData.int (p.2 : Int)) _ ?_ (by simp [sK0, sKs]) (by simp [sK0, sKs]) fun p _ => ?_
    · simp [evSs, e_var, e_non, e_bl, e_int, e_str, e_glob, e_op, e_chain, e_and, e_or, e_one, e_not, e_ife, e_tup, e_lst, e_call, s_set, s_setO, s_setT, s_par, s_aug, s_app, s_sto, s_exp, s_ret, s_ite, s_forr, s_whl, s_raise, s_tryR, s_frz, e_slice, evPs, evO, evI, gV0, gVs, gO0, gOs, iO0, iOs, sK0, sKs, canSet_ok, canOwn_ok, inF0, inFs, asg_name, setAll_cons, setAll_nil, asg_tup, asgs_nil, asgs_cons, ov_var, ov_non, ov_bl, ov_int, ov_str, ov_glob, ov_op, ov_chain, ov_and, ov_or, ov_one, ov_not, ov_ife, ov_tup, ov_lst, ov_call, ov_slice, ov_comp, resolve, Ev.plain, evOp, asgF, isFr, startF, endF, zipD, pr]
    · simp [evSs, e_var, e_non, e_bl, e_int, e_str, e_glob, e_op, e_chain, e_and, e_or, e_one, e_not, e_ife, e_tup, e_lst, e_call, s_set, s_setO, s_setT, s_par, s_aug, s_app, s_sto, s_exp, s_ret, s_ite, s_forr, s_whl, s_raise, s_tryR, s_frz, e_slice, evPs, evO, evI, gV0, gVs, gO0, gOs, iO0, iOs, sK0, sKs, canSet_ok, canOwn_ok, inF0, inFs, asg_name, setAll_cons, setAll_nil, asg_tup, asgs_nil, asgs_cons, ov_var, ov_non, ov_bl, ov_int, ov_str, ov_glob, ov_op, ov_chain, ov_and, ov_or, ov_one, ov_not, ov_ife, ov_tup, ov_lst, ov_call, ov_slice, ov_comp, resolve, Ev.plain, evOp, asgF, isFr, startF, endF, pr]
  have tp : ∀ L : List Dt, evTuple (.list L) = some (.tuple L) := fun _ => rfl
  by_cases hq : q = 0
  · subst hq
    have e5 : T.call (d + 1) 16 (some o4) [.int 4] = .ok (.int 0) o5 := e5
    have s1 : evSlice (LL a) (some 1) none = some (LL (a.drop 1)) := sl_Lfrom a 1
    have s2 : evSlice (LL a) none (some 1) = some (LL (a.take 1)) := sl_Lto a 1
    have ad := add_L (xs := a.drop 1) (ys := a.take 1) (by rw [List.length_drop, List.length_take]; omega)
    obtain ⟨f1, f2, f3⟩ := fin (a.drop 1 ++ a.take 1) (by rw [List.length_append, List.length_drop, List.length_take]; omega) fun r hr => by
      rcases List.mem_append.mp hr with hr | hr
      · exact ha r (List.mem_of_mem_drop hr)
      · exact ha r (List.mem_of_mem_take hr)
    refine ⟨b.zip (a.drop 1 ++ a.take 1), o5, f1, f2, w5, f3, ?_⟩
    have z := cz (a.drop 1 ++ a.take 1)
    unfold PD
    generalize LL (a.drop 1 ++ a.take 1) = A at *
    generalize LL (a.drop 1) = A1 at *
    generalize LL (a.take 1) = A2 at *
    generalize b.zip (a.drop 1 ++ a.take 1) = Z at *
    simp [evSs, e_var, e_non, e_bl, e_int, e_str, e_glob, e_op, e_chain, e_and, e_or, e_one, e_not, e_ife, e_tup, e_lst, e_call, s_set, s_setO, s_setT, s_par, s_aug, s_app, s_sto, s_exp, s_ret, s_ite, s_forr, s_whl, s_raise, s_tryR, s_frz, e_slice, evPs, evO, evI, gV0, gVs, gO0, gOs, iO0, iOs, sK0, sKs, canSet_ok, canOwn_ok, inF0, inFs, asg_name, setAll_cons, setAll_nil, asg_tup, asgs_nil, asgs_cons, ov_var, ov_non, ov_bl, ov_int, ov_str, ov_glob, ov_op, ov_chain, ov_and, ov_or, ov_one, ov_not, ov_ife, ov_tup, ov_lst, ov_call, ov_slice, ov_comp, resolve, Ev.plain, evOp, asgF, isFr, startF, endF, f__law_panel, b__law_panel, e1, g3, e3, oc__law_panel_0, e4, oc__law_panel_1, e5, evEq_int, s1, s2, ad, z, oc__law_panel_2, tp]
  · have q0 : decide ((q : Int) = 0) = false := decide_eq_false (by omega)
    obtain ⟨f1, f2, f3⟩ := fin a la ha
    refine ⟨b.zip a, o5, f1, f2, w5, f3, ?_⟩
    have z := cz a
    unfold PD
    simp [evSs, e_var, e_non, e_bl, e_int, e_str, e_glob, e_op, e_chain, e_and, e_or, e_one, e_not, e_ife, e_tup, e_lst, e_call, s_set, s_setO, s_setT, s_par, s_aug, s_app, s_sto, s_exp, s_ret, s_ite, s_forr, s_whl, s_raise, s_tryR, s_frz, e_slice, evPs, evO, evI, gV0, gVs, gO0, gOs, iO0, iOs, sK0, sKs, canSet_ok, canOwn_ok, inF0, inFs, asg_name, setAll_cons, setAll_nil, asg_tup, asgs_nil, asgs_cons, ov_var, ov_non, ov_bl, ov_int, ov_str, ov_glob, ov_op, ov_chain, ov_and, ov_or, ov_one, ov_not, ov_ife, ov_tup, ov_lst, ov_call, ov_slice, ov_comp, resolve, Ev.plain, evOp, asgF, isFr, startF, endF, f__law_panel, b__law_panel, e1, g3, e3, oc__law_panel_0, e4, oc__law_panel_1, e5, evEq_int, q0, hq, z, oc__law_panel_2, tp]
/-! ### odd panels -/
def Bad (v : Dt) : Prop := okV v = true ∧ isPan v = false
theorem bad_snoc {xs : List Dt} {y : Dt} (h1 : xs.all okE = true) (h2 : okE y = true) (h3 : pairOk y = false) : Bad (.tuple (xs ++ [y])) := by
  refine ⟨?_, ?_⟩
  · show (xs ++ [y]).all okE = true
    rw [List.all_append, h1]
    simp [h2]
  · show (_ && (xs ++ [y]).all pairOk) = false
    rw [List.all_append]
    simp [h3]
theorem sl_Xinit (xs : List Dt) : evSlice (.tuple xs) none (some (-1)) = some (.tuple (xs.take (xs.length - 1))) := by
  show some (PyData.tuple (cutL xs none (some (-1)))) = _
  congr 2
  unfold cutL
  rw [clip_m1, clip_none]
  simp
theorem add_X {xs ys : List Dt} (h : xs.length + ys.length ≤ 1000) : evAdd (.tuple xs) (.tuple ys) = some (.tuple (xs ++ ys)) := by
  show (if xs.length + ys.length ≤ cap then _ else _) = _
  rw [if_pos (by unfold cap; omega)]
theorem c_odd (d : Nat) {o : List Dt} (w : OkW o) {P : List (Nat × Nat)} (h : IsP P) : ∃ v o', Bad v ∧ OkW o' ∧ T.call (d + 2) 19 (some o) [PD P] = .ok v o' := by
  rw [call_def (fn := f__law_odd_panel) rfl ⟨rfl, rfl, by decide⟩]
  obtain ⟨n, o1, n1, w1, e1⟩ := c_take d w 14 (by decide) (by decide)
  have e1 : T.call (d + 1) 16 (some o) [.int 14] = .ok (.int (n : Int)) o1 := e1
  have hm := h.most
  have hp := h.pos
  have all : (P.map pr).all okE = true := okV_PD P
  have t3 : evList (PD P) = some (.list (P.map pr)) := rfl
  have ad : ∀ y, evAdd (PD P) (.tuple [y]) = some (.tuple (P.map pr ++ [y])) := fun y => add_X (by simp; omega)
  have x0 : evIdx (PD P) (.int 0) = some (pr (P.getD 0 (0, 0))) := idx_P hp
  have sl := sl_Xinit (P.map pr)
  have sl : evSlice (PD P) none (some (-1)) = some (.tuple ((P.map pr).take ((P.map pr).length - 1))) := sl
  have ad2 : evAdd (.tuple ((P.map pr).take ((P.map pr).length - 1))) (.tuple [.list [.int 1, .int 2]]) = some (.tuple ((P.map pr).take ((P.map pr).length - 1) ++ [.list [.int 1, .int 2]])) := add_X (by rw [List.length_take, List.length_map]; simp; omega)
  have mu : evMul (.tuple [.tuple [.int 1, .int 1]]) (.int 41) = some (.tuple (List.replicate 41 (.tuple [.int 1, .int 1]))) := rfl
  have al2 : ((P.map pr).take ((P.map pr).length - 1)).all okE = true := by
    rw [List.all_eq_true] at all ⊢
    exact fun x hx => all x (List.mem_of_mem_take hx)
  let odds : List Dt := [.none, .tuple [], .int 5, .list (P.map pr), .tuple (P.map pr ++ [.tuple [.int 0, .int 1]]), .tuple (P.map pr ++ [.tuple [.int 1, .int 1000001]]), .tuple (P.map pr ++ [.tuple [.int 1]]), .tuple (P.map pr ++ [.tuple [.int 1, .int 2, .int 3]]), pr (P.getD 0 (0, 0)),
    .tuple [.tuple [.bool true, .int 1]], .tuple [.tuple [.int 1, .none]], .tuple ((P.map pr).take ((P.map pr).length - 1) ++ [.list [.int 1, .int 2]]), .tuple (List.replicate 41 (.tuple [.int 1, .int 1])), .tuple [.tuple [.int 1, .str (Str.ofString "1")]]]
  have good : ∀ v ∈ odds, Bad v := fun v hv => by
    simp only [odds, List.mem_cons, List.not_mem_nil, or_false] at hv
    rcases hv with rfl | rfl | rfl | rfl | rfl | rfl | rfl | rfl | rfl | rfl | rfl | rfl | rfl | rfl
    · exact ⟨rfl, rfl⟩
    · exact ⟨rfl, rfl⟩
    · exact ⟨rfl, rfl⟩
    · exact ⟨rfl, rfl⟩
    · exact bad_snoc all rfl rfl
    · exact bad_snoc all rfl rfl
    · exact bad_snoc all rfl rfl
    · exact bad_snoc all rfl rfl
    · exact ⟨rfl, rfl⟩
    · exact ⟨rfl, rfl⟩
    · exact ⟨rfl, rfl⟩
    · exact bad_snoc al2 rfl rfl
    · exact ⟨rfl, rfl⟩
    · exact ⟨rfl, rfl⟩
  have hn : n < odds.length := n1
  have io : evIdx (PyData.list odds) (.int (n : Int)) = some odds[n] := idx_n (List.getElem?_eq_getElem hn)
  refine ⟨odds[n], o1, good _ (List.getElem_mem hn), w1, ?_⟩
  generalize odds[n] = v at *
  have io : evIdx (.list ([.none, .tuple [], .int 5, .list (P.map pr), .tuple (P.map pr ++ [.tuple [.int 0, .int 1]]), .tuple (P.map pr ++ [.tuple [.int 1, .int 1000001]]), .tuple (P.map pr ++ [.tuple [.int 1]]), .tuple (P.map pr ++ [.tuple [.int 1, .int 2, .int 3]]), pr (P.getD 0 (0, 0)),
    .tuple [.tuple [.bool true, .int 1]], .tuple [.tuple [.int 1, .none]], .tuple ((P.map pr).take ((P.map pr).length - 1) ++ [.list [.int 1, .int 2]]), .tuple (List.replicate 41 (.tuple [.int 1, .int 1])), .tuple [.tuple [.int 1, .str (Str.ofString "1")]]])) (.int (n : Int)) = some v := io
  have a4 := ad (.tuple [.int 0, .int 1])
  have a5 := ad (.tuple [.int 1, .int 1000001])
  have a6 := ad (.tuple [.int 1])
  have a7 := ad (.tuple [.int 1, .int 2, .int 3])
  clear ad
  generalize PyData.tuple (P.map pr ++ [.tuple [.int 0, .int 1]]) = A4 at *
  generalize PyData.tuple (P.map pr ++ [.tuple [.int 1, .int 1000001]]) = A5 at *
  generalize PyData.tuple (P.map pr ++ [.tuple [.int 1]]) = A6 at *
  generalize PyData.tuple (P.map pr ++ [.tuple [.int 1, .int 2, .int 3]]) = A7 at *
  generalize PyData.tuple ((P.map pr).take ((P.map pr).length - 1) ++ [.list [.int 1, .int 2]]) = A11 at *
  generalize PyData.tuple ((P.map pr).take ((P.map pr).length - 1)) = B11 at *
  generalize PyData.tuple (List.replicate 41 (.tuple [.int 1, .int 1])) = A12 at *
  generalize PyData.list (P.map pr) = A3 at *
  generalize pr (P.getD 0 (0, 0)) = A8 at *
  have m1 : evInt1 (fun i => -i) (.int 1) = some (.int (-1)) := rfl
  have ad9 : ∀ x0 x1 x2 x3 x4 x5 x6 x7 x8 y0 y1 y2 y3 y4 : Dt, evAdd (.list [x0, x1, x2, x3, x4, x5, x6, x7, x8]) (.list [y0, y1, y2, y3, y4]) = some (.list [x0, x1, x2, x3, x4, x5, x6, x7, x8, y0, y1, y2, y3, y4]) := fun _ _ _ _ _ _ _ _ _ _ _ _ _ _ => rfl
  simp [evSs, e_var, e_non, e_bl, e_int, e_str, e_glob, e_op, e_chain, e_and, e_or, e_one, e_not, e_ife, e_tup, e_lst, e_call, s_set, s_setO, s_setT, s_par, s_aug, s_app, s_sto, s_exp, s_ret, s_ite, s_forr, s_whl, s_raise, s_tryR, s_frz, e_slice, evPs, evO, evI, gV0, gVs, gO0, gOs, iO0, iOs, sK0, sKs, canSet_ok, canOwn_ok, inF0, inFs, asg_name, setAll_cons, setAll_nil, asg_tup, asgs_nil, asgs_cons, ov_var, ov_non, ov_bl, ov_int, ov_str, ov_glob, ov_op, ov_chain, ov_and, ov_or, ov_one, ov_not, ov_ife, ov_tup, ov_lst, ov_call, ov_slice, ov_comp, resolve, Ev.plain, evOp, asgF, isFr, startF, endF, f__law_odd_panel, b__law_odd_panel, t3, a4, a5, a6, a7, x0, m1, sl, ad2, mu, ad9, e1, io]
end K79


set_option Elab.async false
set_option linter.all false
set_option maxRecDepth 100000
set_option maxHeartbeats 1000000
set_option exponentiation.threshold 500
namespace K79
open PySem Ev RatL M79
/-! ### all orders -/
theorem in_T (m : Nat) (L : List Nat) : evIn (.int (m : Int)) (LT L) = some (decide (m ∈ L)) := by
  have h := in_nats m L
  have s1 := shp_LT L
  have s2 := shp_LL L
  show (if shp (.int (m : Int)) && shp (LT L) then some ((ND L).any fun z => PyData.eqv z (.int (m : Int))) else none) = _
  rw [s1]
  have h : (if shp (.int (m : Int)) && shp (LL L) then some ((ND L).any fun z => PyData.eqv z (.int (m : Int))) else none) = some (decide (m ∈ L)) := h
  rw [s2] at h
  exact h
theorem nxt_len (n : Nat) (row : List Nat) : (nxt n row).length ≤ n := by
  unfold nxt
  rw [List.length_map]
  exact Nat.le_trans (List.length_filter_le _ _) (Nat.le_of_eq List.length_range)
theorem flat_len {α β : Type} {f : α → List β} {m : Nat} (h : ∀ x, (f x).length ≤ m) : ∀ L : List α, (L.flatMap f).length ≤ L.length * m
  | [] => by simp
  | x :: L => by
    rw [List.flatMap_cons, List.length_append, List.length_cons, Nat.succ_mul]
    have := flat_len h L
    have := h x
    omega
theorem ords_len (n : Nat) : ∀ t, (ords n t).length ≤ n ^ t
  | 0 => by simp [ords]
  | t + 1 => by
    rw [ords, Nat.pow_succ]
    exact Nat.le_trans (flat_len (nxt_len n) _) (Nat.mul_le_mul_right n (ords_len n t))
theorem add_Y {xs ys : List Dt} (h : xs.length + ys.length ≤ 100000) : evAdd (.list xs) (.list ys) = some (.list (xs ++ ys)) := by
  show (if xs.length + ys.length ≤ cap then _ else _) = _
  rw [if_pos (by unfold cap; omega)]
theorem ord_comp {W : Wd} {n : Nat} {row : List Nat} {a1 a2 a3 : Slot} (hn : n ≤ 5) (hl : row.length ≤ 100) : evE W c__law_orders_0 [.val (.int (n : Int)), a1, a2, a3, .val (LT row), .no] = .ok (.list ((nxt n row).map LT), [.val (.int (n : Int)), a1, a2, a3, .val (LT row), .no]) := by
  unfold c__law_orders_0 nxt
  rw [List.map_map]
  refine comp_tf (xs := List.range n) (fun (k : Nat) => PyData.int (k : Int)) (fun k => !(decide (k ∈ row))) _ ?_ (by simp [sK0, sKs]) (fun k _ => ?_) fun k _ _ => ?_
  · have hr := rng_0 (k := n) (by omega)
    simp [evSs, e_var, e_non, e_bl, e_int, e_str, e_glob, e_op, e_chain, e_and, e_or, e_one, e_not, e_ife, e_tup, e_lst, e_call, s_set, s_setO, s_setT, s_par, s_aug, s_app, s_sto, s_exp, s_ret, s_ite, s_forr, s_whl, s_raise, s_tryR, s_frz, e_slice, evPs, evO, evI, gV0, gVs, gO0, gOs, iO0, iOs, sK0, sKs, canSet_ok, canOwn_ok, inF0, inFs, asg_name, setAll_cons, setAll_nil, asg_tup, asgs_nil, asgs_cons, ov_var, ov_non, ov_bl, ov_int, ov_str, ov_glob, ov_op, ov_chain, ov_and, ov_or, ov_one, ov_not, ov_ife, ov_tup, ov_lst, ov_call, ov_slice, ov_comp, resolve, Ev.plain, evOp, asgF, isFr, startF, endF, hr]
  · have q := in_T k row
    simp [evSs, e_var, e_non, e_bl, e_int, e_str, e_glob, e_op, e_chain, e_and, e_or, e_one, e_not, e_ife, e_tup, e_lst, e_call, s_set, s_setO, s_setT, s_par, s_aug, s_app, s_sto, s_exp, s_ret, s_ite, s_forr, s_whl, s_raise, s_tryR, s_frz, e_slice, evPs, evO, evI, gV0, gVs, gO0, gOs, iO0, iOs, sK0, sKs, canSet_ok, canOwn_ok, inF0, inFs, asg_name, setAll_cons, setAll_nil, asg_tup, asgs_nil, asgs_cons, ov_var, ov_non, ov_bl, ov_int, ov_str, ov_glob, ov_op, ov_chain, ov_and, ov_or, ov_one, ov_not, ov_ife, ov_tup, ov_lst, ov_call, ov_slice, ov_comp, resolve, Ev.plain, evOp, asgF, isFr, startF, endF, q]
  · have ad : evAdd (LT row) (.tuple [.int (k : Int)]) = some (Ev.LT (row ++ [k])) := add_T (xs := row) (ys := [k]) (by simp; omega)
    simp [evSs, e_var, e_non, e_bl, e_int, e_str, e_glob, e_op, e_chain, e_and, e_or, e_one, e_not, e_ife, e_tup, e_lst, e_call, s_set, s_setO, s_setT, s_par, s_aug, s_app, s_sto, s_exp, s_ret, s_ite, s_forr, s_whl, s_raise, s_tryR, s_frz, e_slice, evPs, evO, evI, gV0, gVs, gO0, gOs, iO0, iOs, sK0, sKs, canSet_ok, canOwn_ok, inF0, inFs, asg_name, setAll_cons, setAll_nil, asg_tup, asgs_nil, asgs_cons, ov_var, ov_non, ov_bl, ov_int, ov_str, ov_glob, ov_op, ov_chain, ov_and, ov_or, ov_one, ov_not, ov_ife, ov_tup, ov_lst, ov_call, ov_slice, ov_comp, resolve, Ev.plain, evOp, asgF, isFr, startF, endF, ad]
theorem ord_loop {W : Wd} {n t : Nat} (hn : n ≤ 5) (ht : t ≤ 5) (hb : (ords n t).length ≤ 3125) (hr : ∀ o ∈ ords n t, o.length ≤ 100) {a1 a2 a4 : Slot} (h4 : isOwnS a4 = false) : ∃ b4, isOwnS b4 = false ∧
    forLoop (.name 4) (evSs W l__law_orders_0) ((ords n t).map LT) [.val (.int (n : Int)), a1, a2, .val (.list []), a4, .no] = .next [.val (.int (n : Int)), a1, a2, .val (.list ((ords n (t + 1)).map LT)), b4, .no] := by
  obtain ⟨f', e, dn, b4, hd, hb4, ef⟩ := for_list (tg := .name 4) (body := evSs W l__law_orders_0) (g := LT) (I := fun rest f => ∃ dn b4, dn ++ rest = ords n t ∧ isOwnS b4 = false ∧ f = [.val (.int (n : Int)), a1, a2, .val (.list ((dn.flatMap (nxt n)).map LT)), b4, .no]) (xs := ords n t)
    (by
      rintro row rest f ⟨dn, b4, hd, hb4, rfl⟩
      have mem : row ∈ ords n t := by rw [← hd]; exact List.mem_append_right _ List.mem_cons_self
      have c := fun a3 => ord_comp (W := W) (n := n) (row := row) (a1 := a1) (a2 := a2) (a3 := a3) hn (hr row mem)
      have l1 := flat_len (nxt_len n) dn
      have l2 := nxt_len n row
      have l3 : dn.length ≤ 3125 := by
        have : (dn ++ row :: rest).length = (ords n t).length := by rw [hd]
        rw [List.length_append] at this
        omega
      have l4 : dn.length * n ≤ 3125 * 5 := Nat.mul_le_mul l3 hn
      have ad : evAdd (.list ((dn.flatMap (nxt n)).map LT)) (.list ((nxt n row).map LT)) = some (.list (((dn ++ [row]).flatMap (nxt n)).map LT)) := by
        rw [add_Y (by rw [List.length_map, List.length_map]; omega), List.flatMap_append, List.map_append]
        simp
      generalize PyData.list ((dn.flatMap (nxt n)).map LT) = A at *
      generalize hB : PyData.list (((dn ++ [row]).flatMap (nxt n)).map LT) = B at *
      exact ⟨[.val (.int (n : Int)), a1, a2, .val A, .val (LT row), .no], by rw [asg_name]; simp [sKs, sK0, hb4], [.val (.int (n : Int)), a1, a2, .val B, .val (LT row), .no], by simp [evSs, e_var, e_non, e_bl, e_int, e_str, e_glob, e_op, e_chain, e_and, e_or, e_one, e_not, e_ife, e_tup, e_lst, e_call, s_set, s_setO, s_setT, s_par, s_aug, s_app, s_sto, s_exp, s_ret, s_ite, s_forr, s_whl, s_raise, s_tryR, s_frz, e_slice, evPs, evO, evI, gV0, gVs, gO0, gOs, iO0, iOs, sK0, sKs, canSet_ok, canOwn_ok, inF0, inFs, asg_name, setAll_cons, setAll_nil, asg_tup, asgs_nil, asgs_cons, ov_var, ov_non, ov_bl, ov_int, ov_str, ov_glob, ov_op, ov_chain, ov_and, ov_or, ov_one, ov_not, ov_ife, ov_tup, ov_lst, ov_call, ov_slice, ov_comp, resolve, Ev.plain, evOp, asgF, isFr, startF, endF, l__law_orders_0, c, oc__law_orders_0, ad], dn ++ [row], .val (LT row), by rw [← hd]; simp, rfl, by rw [hB]⟩)
    (f := [.val (.int (n : Int)), a1, a2, .val (.list []), a4, .no]) ⟨[], a4, rfl, h4, rfl⟩
  subst ef
  rw [List.append_nil] at hd
  subst hd
  exact ⟨b4, hb4, e⟩
theorem c_orders (d : Nat) {n : Nat} (hn : n ≤ 5) : T.call (d + 1) 20 none [.int (n : Int)] = .ok (.list ((ords n n).map LT)) [] := by
  rw [call_def (fn := f__law_orders) rfl ⟨rfl, rfl, by decide⟩]
  obtain ⟨f', e, a2, a3, a4, h2, h3, h4, ef⟩ := for_range (tg := .name 2) (body := evSs (T.wd (T.call d) false false) l__law_orders_1) (n := n) (g := fun (i : Nat) => PyData.int (i : Int))
    (I := fun t f => ∃ a2 a3 a4, isOwnS a2 = false ∧ isOwnS a3 = false ∧ isOwnS a4 = false ∧ f = [.val (.int (n : Int)), .val (.list ((ords n t).map LT)), a2, a3, a4, .no])
    (by
      rintro t f ht ⟨a2, a3, a4, h2, h3, h4, rfl⟩
      have b1 := ords_len n t
      have b2 : n ^ t ≤ 5 ^ 5 := Nat.le_trans (Nat.pow_le_pow_left hn t) (Nat.pow_le_pow_right (by decide) (by omega))
      obtain ⟨b4, hb4, el⟩ := ord_loop (W := T.wd (T.call d) false false) (n := n) (t := t) hn (by omega) (by omega) (fun o ho => by have := (mem_ords.mp ho).1; omega) (a1 := .val (.list ((ords n t).map LT))) (a2 := .val (.int (t : Int))) h4
      generalize PyData.list ((ords n (t + 1)).map LT) = B at *
      exact ⟨[.val (.int (n : Int)), .val (.list ((ords n t).map LT)), .val (.int (t : Int)), a3, a4, .no], by rw [asg_name]; simp [sKs, sK0, h2], [.val (.int (n : Int)), .val B, .val (.int (t : Int)), .val B, b4, .no], by simp [evSs, e_var, e_non, e_bl, e_int, e_str, e_glob, e_op, e_chain, e_and, e_or, e_one, e_not, e_ife, e_tup, e_lst, e_call, s_set, s_setO, s_setT, s_par, s_aug, s_app, s_sto, s_exp, s_ret, s_ite, s_forr, s_whl, s_raise, s_tryR, s_frz, e_slice, evPs, evO, evI, gV0, gVs, gO0, gOs, iO0, iOs, sK0, sKs, canSet_ok, canOwn_ok, inF0, inFs, asg_name, setAll_cons, setAll_nil, asg_tup, asgs_nil, asgs_cons, ov_var, ov_non, ov_bl, ov_int, ov_str, ov_glob, ov_op, ov_chain, ov_and, ov_or, ov_one, ov_not, ov_ife, ov_tup, ov_lst, ov_call, ov_slice, ov_comp, resolve, Ev.plain, evOp, asgF, isFr, startF, endF, l__law_orders_1, seqOf, h3, el], _, _, _, rfl, rfl, hb4, rfl⟩)
    (f := [.val (.int (n : Int)), .val (.list [LT []]), .no, .no, .no, .no]) ⟨.no, .no, .no, rfl, rfl, rfl, rfl⟩
  subst ef
  have hr := rng_0 (k := n) (by omega)
  have e : forLoop (.name 2) (evSs (T.wd (T.call d) false false) l__law_orders_1) ((List.range n).map fun (i : Nat) => PyData.int (i : Int)) [.val (.int (n : Int)), .val (.list [.tuple []]), .no, .no, .no, .no] = _ := e
  simp [evSs, e_var, e_non, e_bl, e_int, e_str, e_glob, e_op, e_chain, e_and, e_or, e_one, e_not, e_ife, e_tup, e_lst, e_call, s_set, s_setO, s_setT, s_par, s_aug, s_app, s_sto, s_exp, s_ret, s_ite, s_forr, s_whl, s_raise, s_tryR, s_frz, e_slice, evPs, evO, evI, gV0, gVs, gO0, gOs, iO0, iOs, sK0, sKs, canSet_ok, canOwn_ok, inF0, inFs, asg_name, setAll_cons, setAll_nil, asg_tup, asgs_nil, asgs_cons, ov_var, ov_non, ov_bl, ov_int, ov_str, ov_glob, ov_op, ov_chain, ov_and, ov_or, ov_one, ov_not, ov_ife, ov_tup, ov_lst, ov_call, ov_slice, ov_comp, resolve, Ev.plain, evOp, asgF, isFr, startF, endF, f__law_orders, b__law_orders, hr, e]
/-! ### in order -/
theorem fs_perm (P : List (Nat × Nat)) : (fs P).Perm (P.map (·.1)) := sortN_perm _
theorem ss_perm (P : List (Nat × Nat)) : (ss P).Perm (P.map (·.2)) := sortN_perm _
theorem fs_len (P : List (Nat × Nat)) : (fs P).length = P.length := by rw [(fs_perm P).length_eq, List.length_map]
theorem ss_len (P : List (Nat × Nat)) : (ss P).length = P.length := by rw [(ss_perm P).length_eq, List.length_map]
theorem stl_fst (P : List (Nat × Nat)) : (stl P).map (·.1) = fs P := List.map_fst_zip (by rw [fs_len, ss_len]; exact Nat.le_refl _)
theorem stl_snd (P : List (Nat × Nat)) : (stl P).map (·.2) = ss P := List.map_snd_zip (by rw [fs_len, ss_len]; exact Nat.le_refl _)
theorem stl_len (P : List (Nat × Nat)) : (stl P).length = P.length := by unfold stl; rw [List.length_zip, fs_len, ss_len, Nat.min_self]
theorem stl_srt (P : List (Nat × Nat)) : Srt (stl P) := ⟨by rw [stl_fst]; exact sortN_sorted _, by rw [stl_snd]; exact sortN_sorted _⟩
theorem stl_e1 (P : List (Nat × Nat)) : ((stl P).map (·.1)).Perm (P.map (·.1)) := by rw [stl_fst]; exact fs_perm P
theorem stl_e2 (P : List (Nat × Nat)) : ((stl P).map (·.2)).Perm (P.map (·.2)) := by rw [stl_snd]; exact ss_perm P
theorem stl_stl (P : List (Nat × Nat)) : stl (stl P) = stl P := by
  have a : fs (stl P) = fs P := by
    show sortN ((stl P).map (·.1)) = _
    rw [stl_fst]
    exact sortN_id (sortN_sorted _)
  have b : ss (stl P) = ss P := by
    show sortN ((stl P).map (·.2)) = _
    rw [stl_snd]
    exact sortN_id (sortN_sorted _)
  show (fs (stl P)).zip (ss (stl P)) = _
  rw [a, b]
  rfl
theorem stl_P {P : List (Nat × Nat)} (h : IsP P) : IsP (stl P) := by
  refine ⟨by rw [stl_len]; exact h.pos, by rw [stl_len]; exact h.most, fun p hp => ?_⟩
  have m1 : p.1 ∈ (stl P).map (·.1) := List.mem_map.mpr ⟨p, hp, rfl⟩
  have m2 : p.2 ∈ (stl P).map (·.2) := List.mem_map.mpr ⟨p, hp, rfl⟩
  obtain ⟨a, ha, ea⟩ := List.mem_map.mp ((stl_e1 P).mem_iff.mp m1)
  obtain ⟨b, hb, eb⟩ := List.mem_map.mp ((stl_e2 P).mem_iff.mp m2)
  have h1 := (h.inc a ha).1
  have h2 := (h.inc b hb).2
  have ea : a.1 = p.1 := ea
  have eb : b.2 = p.2 := eb
  omega
theorem prs_mem {P : List (Nat × Nat)} {i j : Nat} : (i, j) ∈ prs P ↔ i < j ∧ j < P.length ∧ crA P i j = true := by
  unfold prs prs1
  simp only [List.mem_flatMap, List.mem_range, List.mem_map, List.mem_filter, List.mem_range'_1, Prod.mk.injEq]
  constructor
  · rintro ⟨a, ha, b, ⟨hb, c⟩, rfl, rfl⟩
    exact ⟨by omega, by omega, c⟩
  · rintro ⟨h1, h2, h3⟩
    exact ⟨i, by omega, j, ⟨by omega, h3⟩, rfl, rfl⟩
theorem prs_swp {P : List (Nat × Nat)} {i j : Nat} (h : (i, j) ∈ prs P) : i < P.length ∧ j < P.length ∧ i ≠ j ∧ cost (swp P i j) < cost P := by
  obtain ⟨h1, h2, h3⟩ := prs_mem.mp h
  have hi : i < P.length := by omega
  refine ⟨hi, h2, by omega, swp_cost hi h2 (by omega) ?_⟩
  unfold crA at h3
  rw [getD_eq hi, getD_eq h2] at h3
  exact h3
theorem key (P : List (Nat × Nat)) : prs P = [] ↔ cost P = cost (stl P) := by
  constructor
  · intro h
    refine Classical.byContradiction fun hc => ?_
    obtain ⟨i, j, hi, hj, lt, c⟩ := cross_all (stl_e1 P) (stl_e2 P) (stl_srt P) fun z => hc z.symm
    have : (i, j) ∈ prs P := prs_mem.mpr ⟨lt, hj, by unfold crA; rw [getD_eq hi, getD_eq hj]; exact c⟩
    rw [h] at this
    cases this
  · intro h
    cases hp : prs P with
    | nil => rfl
    | cons p ps =>
      exfalso
      obtain ⟨hi, hj, ne, lt⟩ := prs_swp (P := P) (i := p.1) (j := p.2) (by rw [hp]; exact List.mem_cons_self)
      have := le_all (P := swp P p.1 p.2) (S := stl P) (by rw [swp_fst hi hj ne]; exact stl_e1 P) ((stl_e2 P).trans (swp_snd hi hj ne).symm) (stl_srt P)
      omega
theorem swp_P {P : List (Nat × Nat)} (h : IsP P) {i j : Nat} (hi : i < P.length) (hj : j < P.length) : IsP (swp P i j) := by
  refine ⟨by unfold swp; rw [List.length_set, List.length_set]; exact h.pos, by unfold swp; rw [List.length_set, List.length_set]; exact h.most, fun p hp => ?_⟩
  unfold swp at hp
  rw [getD_eq hi, getD_eq hj] at hp
  have a := h.inc _ (List.getElem_mem hi)
  have b := h.inc _ (List.getElem_mem hj)
  rcases List.mem_or_eq_of_mem_set hp with hp | rfl
  · rcases List.mem_or_eq_of_mem_set hp with hp | rfl
    · exact h.inc p hp
    · exact ⟨a.1, b.2⟩
  · exact ⟨b.1, a.2⟩
end K79


set_option Elab.async false
set_option linter.all false
set_option maxRecDepth 100000
set_option maxHeartbeats 1000000
set_option exponentiation.threshold 500
namespace K79
open PySem Ev RatL M79
abbrev W12 : Wd := T.wd (T.call 12) false false
structure La (P : List (Nat × Nat)) : Prop where
  ok : IsP P
  six : P.length ≤ 6
  inc : ∀ p ∈ P, p.1 ≤ 1010 ∧ p.2 ≤ 1010
def G (sc : Dt) (o : List Dt) (t pn n l w p i d v wy r j : Slot) : Frm := [.val sc, .own o, t, .no, pn, n, l, w, p, i, d, v, wy, r, j, .no, .no, .no, .no, .no]
def G2 (sc : Dt) (o : List Dt) (t : Slot) (P : List (Nat × Nat)) (p i d v wy r j : Slot) : Frm := G sc o t (.val (PD P)) (.val (.int (P.length : Int))) (.val (.int (cost (stl P) : Int))) (.val (.int (cost P : Int))) p i d v wy r j
def PR (P : List (Nat × Nat)) : Dt := .list ((prs P).map pr)
def G3 (sc : Dt) (o : List Dt) (t : Slot) (P : List (Nat × Nat)) (i d v wy r j : Slot) : Frm := G2 sc o t P (.val (PR P)) i d v wy r j
section
variable {sc : Dt} {o : List Dt} {t pn n l w p i d v wy r j : Slot}
theorem st14 (ok : OkW o) (h4 : isOwnS pn = false) : ∃ P o', La P ∧ OkW o' ∧ evS W12 s_law_14 (G sc o t pn n l w p i d v wy r j) = .next (G sc o' t (.val (PD P)) n l w p i d v wy r j) := by
  obtain ⟨P, o1, h1, h2, w1, h3, e⟩ := c_panel 10 ok (people := 6) (by decide) (by decide)
  have e : T.call 12 18 (some o) [.int 6] = .ok (PD P) o1 := e
  exact ⟨P, o1, ⟨h1, h2, h3⟩, w1, by simp [evSs, e_var, e_non, e_bl, e_int, e_str, e_glob, e_op, e_chain, e_and, e_or, e_one, e_not, e_ife, e_tup, e_lst, e_call, s_set, s_setO, s_setT, s_par, s_aug, s_app, s_sto, s_exp, s_ret, s_ite, s_forr, s_whl, s_raise, s_tryR, s_frz, e_slice, evPs, evO, evI, gV0, gVs, gO0, gOs, iO0, iOs, sK0, sKs, canSet_ok, canOwn_ok, inF0, inFs, asg_name, setAll_cons, setAll_nil, asg_tup, asgs_nil, asgs_cons, ov_var, ov_non, ov_bl, ov_int, ov_str, ov_glob, ov_op, ov_chain, ov_and, ov_or, ov_one, ov_not, ov_ife, ov_tup, ov_lst, ov_call, ov_slice, ov_comp, resolve, Ev.plain, evOp, asgF, isFr, startF, endF, s_law_14, G, e, h4]⟩
variable {P : List (Nat × Nat)} (h : La P)
include h
theorem st15 (h5 : isOwnS n = false) : evS W12 s_law_15 (G sc o t (.val (PD P)) n l w p i d v wy r j) = .next (G sc o t (.val (PD P)) (.val (.int (P.length : Int))) l w p i d v wy r j) := by
  have ln := len_P P
  simp [evSs, e_var, e_non, e_bl, e_int, e_str, e_glob, e_op, e_chain, e_and, e_or, e_one, e_not, e_ife, e_tup, e_lst, e_call, s_set, s_setO, s_setT, s_par, s_aug, s_app, s_sto, s_exp, s_ret, s_ite, s_forr, s_whl, s_raise, s_tryR, s_frz, e_slice, evPs, evO, evI, gV0, gVs, gO0, gOs, iO0, iOs, sK0, sKs, canSet_ok, canOwn_ok, inF0, inFs, asg_name, setAll_cons, setAll_nil, asg_tup, asgs_nil, asgs_cons, ov_var, ov_non, ov_bl, ov_int, ov_str, ov_glob, ov_op, ov_chain, ov_and, ov_or, ov_one, ov_not, ov_ife, ov_tup, ov_lst, ov_call, ov_slice, ov_comp, resolve, Ev.plain, evOp, asgF, isFr, startF, endF, s_law_15, G, ln, h5]
theorem st16 (h6 : isOwnS l = false) : evS W12 s_law_16 (G sc o t (.val (PD P)) (.val (.int (P.length : Int))) l w p i d v wy r j) = .next (G sc o t (.val (PD P)) (.val (.int (P.length : Int))) (.val (.int (cost (stl P) : Int))) w p i d v wy r j) := by
  have h6' := h.six
  have c0 : evE W12 c_law_0 (G sc o t (.val (PD P)) (.val (.int (P.length : Int))) l w p i d v wy r j) = .ok (LL (P.map (·.1)), G sc o t (.val (PD P)) (.val (.int (P.length : Int))) l w p i d v wy r j) := by
    unfold c_law_0 LL ND
    rw [List.map_map]
    refine comp_pair0 (by decide) (xs := P) (fun p => PyData.int (p.1 : Int)) (fun p => PyData.int (p.2 : Int)) _ ?_ (by simp [G, sK0, sKs]) (by simp [G, sK0, sKs]) fun p _ => ?_
    · simp [evSs, e_var, e_non, e_bl, e_int, e_str, e_glob, e_op, e_chain, e_and, e_or, e_one, e_not, e_ife, e_tup, e_lst, e_call, s_set, s_setO, s_setT, s_par, s_aug, s_app, s_sto, s_exp, s_ret, s_ite, s_forr, s_whl, s_raise, s_tryR, s_frz, e_slice, evPs, evO, evI, gV0, gVs, gO0, gOs, iO0, iOs, sK0, sKs, canSet_ok, canOwn_ok, inF0, inFs, asg_name, setAll_cons, setAll_nil, asg_tup, asgs_nil, asgs_cons, ov_var, ov_non, ov_bl, ov_int, ov_str, ov_glob, ov_op, ov_chain, ov_and, ov_or, ov_one, ov_not, ov_ife, ov_tup, ov_lst, ov_call, ov_slice, ov_comp, resolve, Ev.plain, evOp, asgF, isFr, startF, endF, G, seq_P]
    · simp [evSs, e_var, e_non, e_bl, e_int, e_str, e_glob, e_op, e_chain, e_and, e_or, e_one, e_not, e_ife, e_tup, e_lst, e_call, s_set, s_setO, s_setT, s_par, s_aug, s_app, s_sto, s_exp, s_ret, s_ite, s_forr, s_whl, s_raise, s_tryR, s_frz, e_slice, evPs, evO, evI, gV0, gVs, gO0, gOs, iO0, iOs, sK0, sKs, canSet_ok, canOwn_ok, inF0, inFs, asg_name, setAll_cons, setAll_nil, asg_tup, asgs_nil, asgs_cons, ov_var, ov_non, ov_bl, ov_int, ov_str, ov_glob, ov_op, ov_chain, ov_and, ov_or, ov_one, ov_not, ov_ife, ov_tup, ov_lst, ov_call, ov_slice, ov_comp, resolve, Ev.plain, evOp, asgF, isFr, startF, endF, G]
  have c1 : evE W12 c_law_1 (G sc o t (.val (PD P)) (.val (.int (P.length : Int))) l w p i d v wy r j) = .ok (LL (P.map (·.2)), G sc o t (.val (PD P)) (.val (.int (P.length : Int))) l w p i d v wy r j) := by
    unfold c_law_1 LL ND
    rw [List.map_map]
    refine comp_pair0 (by decide) (xs := P) (fun p => PyData.int (p.1 : Int)) (fun p => PyData.int (p.2 : Int)) _ ?_ (by simp [G, sK0, sKs]) (by simp [G, sK0, sKs]) fun p _ => ?_
    · simp [evSs, e_var, e_non, e_bl, e_int, e_str, e_glob, e_op, e_chain, e_and, e_or, e_one, e_not, e_ife, e_tup, e_lst, e_call, s_set, s_setO, s_setT, s_par, s_aug, s_app, s_sto, s_exp, s_ret, s_ite, s_forr, s_whl, s_raise, s_tryR, s_frz, e_slice, evPs, evO, evI, gV0, gVs, gO0, gOs, iO0, iOs, sK0, sKs, canSet_ok, canOwn_ok, inF0, inFs, asg_name, setAll_cons, setAll_nil, asg_tup, asgs_nil, asgs_cons, ov_var, ov_non, ov_bl, ov_int, ov_str, ov_glob, ov_op, ov_chain, ov_and, ov_or, ov_one, ov_not, ov_ife, ov_tup, ov_lst, ov_call, ov_slice, ov_comp, resolve, Ev.plain, evOp, asgF, isFr, startF, endF, G, seq_P]
    · simp [evSs, e_var, e_non, e_bl, e_int, e_str, e_glob, e_op, e_chain, e_and, e_or, e_one, e_not, e_ife, e_tup, e_lst, e_call, s_set, s_setO, s_setT, s_par, s_aug, s_app, s_sto, s_exp, s_ret, s_ite, s_forr, s_whl, s_raise, s_tryR, s_frz, e_slice, evPs, evO, evI, gV0, gVs, gO0, gOs, iO0, iOs, sK0, sKs, canSet_ok, canOwn_ok, inF0, inFs, asg_name, setAll_cons, setAll_nil, asg_tup, asgs_nil, asgs_cons, ov_var, ov_non, ov_bl, ov_int, ov_str, ov_glob, ov_op, ov_chain, ov_and, ov_or, ov_one, ov_not, ov_ife, ov_tup, ov_lst, ov_call, ov_slice, ov_comp, resolve, Ev.plain, evOp, asgF, isFr, startF, endF, G]
  have s1 : evSorted (LL (P.map (·.1))) = some (LL (fs P)) := sorted_L (xs := P.map (·.1)) (by simp; omega)
  have s2 : evSorted (LL (P.map (·.2))) = some (LL (ss P)) := sorted_L (xs := P.map (·.2)) (by simp; omega)
  have z : zipOk (LL (fs P)) (LL (ss P)) = some ((stl P).map fun p => .tuple [.int (p.1 : Int), .int (p.2 : Int)]) := zipD _ _
  have c2 : evE W12 c_law_2 (G sc o t (.val (PD P)) (.val (.int (P.length : Int))) l w p i d v wy r j) = .ok (.list ((stl P).map fun p => PyData.int (dist p.1 p.2 : Int)), G sc o t (.val (PD P)) (.val (.int (P.length : Int))) l w p i d v wy r j) := by
    unfold c_law_2
    refine comp_pair0 (by decide) (xs := stl P) (fun p => PyData.int (p.1 : Int)) (fun p => PyData.int (p.2 : Int)) _ ?_ (by simp [G, sK0, sKs]) (by simp [G, sK0, sKs]) fun p _ => ?_
    · generalize LL (P.map (·.1)) = A at *
      generalize LL (P.map (·.2)) = B at *
      generalize LL (fs P) = C at *
      generalize LL (ss P) = D at *
      unfold G at c0 c1 ⊢
      simp [evSs, e_var, e_non, e_bl, e_int, e_str, e_glob, e_op, e_chain, e_and, e_or, e_one, e_not, e_ife, e_tup, e_lst, e_call, s_set, s_setO, s_setT, s_par, s_aug, s_app, s_sto, s_exp, s_ret, s_ite, s_forr, s_whl, s_raise, s_tryR, s_frz, e_slice, evPs, evO, evI, gV0, gVs, gO0, gOs, iO0, iOs, sK0, sKs, canSet_ok, canOwn_ok, inF0, inFs, asg_name, setAll_cons, setAll_nil, asg_tup, asgs_nil, asgs_cons, ov_var, ov_non, ov_bl, ov_int, ov_str, ov_glob, ov_op, ov_chain, ov_and, ov_or, ov_one, ov_not, ov_ife, ov_tup, ov_lst, ov_call, ov_slice, ov_comp, resolve, Ev.plain, evOp, asgF, isFr, startF, endF, c0, oc_law_0, c1, oc_law_1, s1, s2, z]
    · have q := dist_i p.1 p.2
      simp [evSs, e_var, e_non, e_bl, e_int, e_str, e_glob, e_op, e_chain, e_and, e_or, e_one, e_not, e_ife, e_tup, e_lst, e_call, s_set, s_setO, s_setT, s_par, s_aug, s_app, s_sto, s_exp, s_ret, s_ite, s_forr, s_whl, s_raise, s_tryR, s_frz, e_slice, evPs, evO, evI, gV0, gVs, gO0, gOs, iO0, iOs, sK0, sKs, canSet_ok, canOwn_ok, inF0, inFs, asg_name, setAll_cons, setAll_nil, asg_tup, asgs_nil, asgs_cons, ov_var, ov_non, ov_bl, ov_int, ov_str, ov_glob, ov_op, ov_chain, ov_and, ov_or, ov_one, ov_not, ov_ife, ov_tup, ov_lst, ov_call, ov_slice, ov_comp, resolve, Ev.plain, evOp, asgF, isFr, startF, endF, G, sub_i, q]
  have su := sum_f (fun p : Nat × Nat => dist p.1 p.2) (stl P)
  have su : evSum (.list ((stl P).map fun p => PyData.int (dist p.1 p.2 : Int))) = some (.int (cost (stl P) : Int)) := su
  generalize PyData.list ((stl P).map fun p => PyData.int (dist p.1 p.2 : Int)) = A at *
  unfold G at c2 ⊢
  simp [evSs, e_var, e_non, e_bl, e_int, e_str, e_glob, e_op, e_chain, e_and, e_or, e_one, e_not, e_ife, e_tup, e_lst, e_call, s_set, s_setO, s_setT, s_par, s_aug, s_app, s_sto, s_exp, s_ret, s_ite, s_forr, s_whl, s_raise, s_tryR, s_frz, e_slice, evPs, evO, evI, gV0, gVs, gO0, gOs, iO0, iOs, sK0, sKs, canSet_ok, canOwn_ok, inF0, inFs, asg_name, setAll_cons, setAll_nil, asg_tup, asgs_nil, asgs_cons, ov_var, ov_non, ov_bl, ov_int, ov_str, ov_glob, ov_op, ov_chain, ov_and, ov_or, ov_one, ov_not, ov_ife, ov_tup, ov_lst, ov_call, ov_slice, ov_comp, resolve, Ev.plain, evOp, asgF, isFr, startF, endF, s_law_16, c2, oc_law_2, su, h6]
theorem st17 (h7 : isOwnS w = false) : evS W12 s_law_17 (G sc o t (.val (PD P)) (.val (.int (P.length : Int))) (.val (.int (cost (stl P) : Int))) w p i d v wy r j) = .next (G2 sc o t P p i d v wy r j) := by
  have c : T.call 12 21 none [PD P] = .ok (.int (cost P : Int)) [] := c_lchange 11 P
  simp [evSs, e_var, e_non, e_bl, e_int, e_str, e_glob, e_op, e_chain, e_and, e_or, e_one, e_not, e_ife, e_tup, e_lst, e_call, s_set, s_setO, s_setT, s_par, s_aug, s_app, s_sto, s_exp, s_ret, s_ite, s_forr, s_whl, s_raise, s_tryR, s_frz, e_slice, evPs, evO, evI, gV0, gVs, gO0, gOs, iO0, iOs, sK0, sKs, canSet_ok, canOwn_ok, inF0, inFs, asg_name, setAll_cons, setAll_nil, asg_tup, asgs_nil, asgs_cons, ov_var, ov_non, ov_bl, ov_int, ov_str, ov_glob, ov_op, ov_chain, ov_and, ov_or, ov_one, ov_not, ov_ife, ov_tup, ov_lst, ov_call, ov_slice, ov_comp, resolve, Ev.plain, evOp, asgF, isFr, startF, endF, s_law_17, G2, G, c, h7]
theorem st18 (h8 : isOwnS p = false) : evS W12 s_law_18 (G2 sc o t P p i d v wy r j) = .next (G2 sc o t P (.val (.list [])) i d v wy r j) := by
  simp [evSs, e_var, e_non, e_bl, e_int, e_str, e_glob, e_op, e_chain, e_and, e_or, e_one, e_not, e_ife, e_tup, e_lst, e_call, s_set, s_setO, s_setT, s_par, s_aug, s_app, s_sto, s_exp, s_ret, s_ite, s_forr, s_whl, s_raise, s_tryR, s_frz, e_slice, evPs, evO, evI, gV0, gVs, gO0, gOs, iO0, iOs, sK0, sKs, canSet_ok, canOwn_ok, inF0, inFs, asg_name, setAll_cons, setAll_nil, asg_tup, asgs_nil, asgs_cons, ov_var, ov_non, ov_bl, ov_int, ov_str, ov_glob, ov_op, ov_chain, ov_and, ov_or, ov_one, ov_not, ov_ife, ov_tup, ov_lst, ov_call, ov_slice, ov_comp, resolve, Ev.plain, evOp, asgF, isFr, startF, endF, s_law_18, G2, G, h8]
theorem prs1_len (i : Nat) : (prs1 P i).length ≤ 6 := by
  unfold prs1
  rw [List.length_map]
  refine Nat.le_trans (List.length_filter_le _ _) ?_
  rw [List.length_range']
  have := h.six
  omega
theorem st19 (h9 : isOwnS i = false) (hj : isOwnS j = false) : ∃ b, isOwnS b = false ∧ evS W12 s_law_19 (G2 sc o t P (.val (.list [])) i d v wy r j) = .next (G3 sc o t P b d v wy r j) := by
  have h6 := h.six
  obtain ⟨f', e, b, hb, ef⟩ := for_range (tg := .name 9) (body := evSs W12 l_law_0) (n := P.length) (g := fun (i : Nat) => PyData.int (i : Int))
    (I := fun k f => ∃ b, isOwnS b = false ∧ f = G2 sc o t P (.val (.list (((List.range k).flatMap (prs1 P)).map pr))) b d v wy r j)
    (by
      rintro k f hk ⟨b, hb, rfl⟩
      have c3 : ∀ pp : Slot, evE W12 c_law_3 (G2 sc o t P pp (.val (.int (k : Int))) d v wy r j) = .ok (.list ((prs1 P k).map pr), G2 sc o t P pp (.val (.int (k : Int))) d v wy r j) := fun pp => by
        unfold c_law_3 prs1
        rw [List.map_map]
        have hr : rngOk ((k : Int) + 1) (P.length : Int) = some ((List.range' (k + 1) (P.length - (k + 1))).map fun (j : Nat) => PyData.int (j : Int)) := by
          rw [show (k : Int) + 1 = ((k + 1 : Nat) : Int) by omega]
          exact rng_2 (by omega) (by omega)
        refine comp_tf (xs := List.range' (k + 1) (P.length - (k + 1))) (fun (j : Nat) => PyData.int (j : Int)) (crA P k) _ ?_ (by simp [G2, G, sK0, sKs, hj]) (fun m hm => ?_) fun m _ _ => ?_
        · simp [evSs, e_var, e_non, e_bl, e_int, e_str, e_glob, e_op, e_chain, e_and, e_or, e_one, e_not, e_ife, e_tup, e_lst, e_call, s_set, s_setO, s_setT, s_par, s_aug, s_app, s_sto, s_exp, s_ret, s_ite, s_forr, s_whl, s_raise, s_tryR, s_frz, e_slice, evPs, evO, evI, gV0, gVs, gO0, gOs, iO0, iOs, sK0, sKs, canSet_ok, canOwn_ok, inF0, inFs, asg_name, setAll_cons, setAll_nil, asg_tup, asgs_nil, asgs_cons, ov_var, ov_non, ov_bl, ov_int, ov_str, ov_glob, ov_op, ov_chain, ov_and, ov_or, ov_one, ov_not, ov_ife, ov_tup, ov_lst, ov_call, ov_slice, ov_comp, resolve, Ev.plain, evOp, asgF, isFr, startF, endF, G2, G, evAdd, hr]
        · have hm := List.mem_range'_1.mp hm
          have c : T.call 12 22 none [PD P, .tuple [.int (k : Int), .int (m : Int)]] = .ok (.bool (isCr P (.tuple [.int (k : Int), .int (m : Int)]))) [] := c_lcrosses 7 rfl
          have q : isCr P (.tuple [.int (k : Int), .int (m : Int)]) = crA P k m := by
            show (((decide ((0 : Int) ≤ (k : Int)) && decide ((k : Int) < (P.length : Int))) && (decide ((0 : Int) ≤ (m : Int)) && decide ((m : Int) < (P.length : Int)))) && crA P k m) = _
            rw [decide_eq_true (by omega), decide_eq_true (by omega), decide_eq_true (by omega), decide_eq_true (by omega)]
            rfl
          rw [q] at c
          simp [evSs, e_var, e_non, e_bl, e_int, e_str, e_glob, e_op, e_chain, e_and, e_or, e_one, e_not, e_ife, e_tup, e_lst, e_call, s_set, s_setO, s_setT, s_par, s_aug, s_app, s_sto, s_exp, s_ret, s_ite, s_forr, s_whl, s_raise, s_tryR, s_frz, e_slice, evPs, evO, evI, gV0, gVs, gO0, gOs, iO0, iOs, sK0, sKs, canSet_ok, canOwn_ok, inF0, inFs, asg_name, setAll_cons, setAll_nil, asg_tup, asgs_nil, asgs_cons, ov_var, ov_non, ov_bl, ov_int, ov_str, ov_glob, ov_op, ov_chain, ov_and, ov_or, ov_one, ov_not, ov_ife, ov_tup, ov_lst, ov_call, ov_slice, ov_comp, resolve, Ev.plain, evOp, asgF, isFr, startF, endF, G2, G, c]
        · simp [evSs, e_var, e_non, e_bl, e_int, e_str, e_glob, e_op, e_chain, e_and, e_or, e_one, e_not, e_ife, e_tup, e_lst, e_call, s_set, s_setO, s_setT, s_par, s_aug, s_app, s_sto, s_exp, s_ret, s_ite, s_forr, s_whl, s_raise, s_tryR, s_frz, e_slice, evPs, evO, evI, gV0, gVs, gO0, gOs, iO0, iOs, sK0, sKs, canSet_ok, canOwn_ok, inF0, inFs, asg_name, setAll_cons, setAll_nil, asg_tup, asgs_nil, asgs_cons, ov_var, ov_non, ov_bl, ov_int, ov_str, ov_glob, ov_op, ov_chain, ov_and, ov_or, ov_one, ov_not, ov_ife, ov_tup, ov_lst, ov_call, ov_slice, ov_comp, resolve, Ev.plain, evOp, asgF, isFr, startF, endF, G2, G, pr]
      have l1 := flat_len (prs1_len h) (List.range k)
      rw [List.length_range] at l1
      have l2 := prs1_len h k
      have ad : evAdd (.list (((List.range k).flatMap (prs1 P)).map pr)) (.list ((prs1 P k).map pr)) = some (.list (((List.range (k + 1)).flatMap (prs1 P)).map pr)) := by
        rw [add_Y (by rw [List.length_map, List.length_map]; omega), List.range_succ, List.flatMap_append, List.map_append]
        simp
      generalize PyData.list (((List.range k).flatMap (prs1 P)).map pr) = A at *
      generalize hB : PyData.list (((List.range (k + 1)).flatMap (prs1 P)).map pr) = B at *
      unfold G2 G at c3
      exact ⟨G2 sc o t P (.val A) (.val (.int (k : Int))) d v wy r j, by rw [asg_name]; simp [G2, G, sKs, sK0, hb], G2 sc o t P (.val B) (.val (.int (k : Int))) d v wy r j, by simp [evSs, e_var, e_non, e_bl, e_int, e_str, e_glob, e_op, e_chain, e_and, e_or, e_one, e_not, e_ife, e_tup, e_lst, e_call, s_set, s_setO, s_setT, s_par, s_aug, s_app, s_sto, s_exp, s_ret, s_ite, s_forr, s_whl, s_raise, s_tryR, s_frz, e_slice, evPs, evO, evI, gV0, gVs, gO0, gOs, iO0, iOs, sK0, sKs, canSet_ok, canOwn_ok, inF0, inFs, asg_name, setAll_cons, setAll_nil, asg_tup, asgs_nil, asgs_cons, ov_var, ov_non, ov_bl, ov_int, ov_str, ov_glob, ov_op, ov_chain, ov_and, ov_or, ov_one, ov_not, ov_ife, ov_tup, ov_lst, ov_call, ov_slice, ov_comp, resolve, Ev.plain, evOp, asgF, isFr, startF, endF, l_law_0, s_law_0, G2, G, c3, oc_law_3, ad], .val (.int (k : Int)), rfl, rfl⟩)
    (f := G2 sc o t P (.val (.list [])) i d v wy r j) ⟨i, h9, rfl⟩
  subst ef
  refine ⟨b, hb, ?_⟩
  have hr := rng_0 (k := P.length) (by omega)
  unfold s_law_19
  rw [s_forr]
  have ei : evI W12 (.rng1 (.var 5)) (G2 sc o t P (.val (.list [])) i d v wy r j) = .ok ((List.range P.length).map fun (i : Nat) => PyData.int (i : Int), G2 sc o t P (.val (.list [])) i d v wy r j) := by
    simp [evSs, e_var, e_non, e_bl, e_int, e_str, e_glob, e_op, e_chain, e_and, e_or, e_one, e_not, e_ife, e_tup, e_lst, e_call, s_set, s_setO, s_setT, s_par, s_aug, s_app, s_sto, s_exp, s_ret, s_ite, s_forr, s_whl, s_raise, s_tryR, s_frz, e_slice, evPs, evO, evI, gV0, gVs, gO0, gOs, iO0, iOs, sK0, sKs, canSet_ok, canOwn_ok, inF0, inFs, asg_name, setAll_cons, setAll_nil, asg_tup, asgs_nil, asgs_cons, ov_var, ov_non, ov_bl, ov_int, ov_str, ov_glob, ov_op, ov_chain, ov_and, ov_or, ov_one, ov_not, ov_ife, ov_tup, ov_lst, ov_call, ov_slice, ov_comp, resolve, Ev.plain, evOp, asgF, isFr, startF, endF, G2, G, hr]
  rw [ei]
  exact e
theorem shp_PR : shp (PR P) = true := by
  refine shp_list (k := 1) (fun x hx => ?_) (fun x hx => ?_) (by decide)
  · obtain ⟨q, _, rfl⟩ := List.mem_map.mp hx
    rfl
  · obtain ⟨q, _, rfl⟩ := List.mem_map.mp hx
    exact Nat.le_refl _
theorem pr_nil : evEq (PR P) (.list []) = some (decide (prs P = [])) := by
  refine (eqL_nil (shp_PR h)).trans (congrArg some ?_)
  cases prs P <;> rfl
def duL (P : List (Nat × Nat)) : Dt := .list ((List.range 4).map (dues P))
theorem st20 (h10 : isOwnS d = false) : evS W12 s_law_20 (G3 sc o t P i d v wy r j) = .next (G3 sc o t P i (.val (duL P)) v wy r j) := by
  have q := pr_nil h
  have du : ∀ x, x = optP (prs P).head? → PyData.list [.int (cost P : Int), .int (cost (stl P) : Int), .int ((cost P : Int) - (cost (stl P) : Int)), x] = duL P := fun x e => by rw [e]; rfl
  cases hp : prs P with
  | nil =>
    rw [hp] at q
    have q : evEq (PR P) (.list []) = some true := q
    have du := du .none (by rw [hp]; rfl)
    generalize duL P = D at *
    generalize hA : PR P = A at *
    unfold G3
    simp [evSs, e_var, e_non, e_bl, e_int, e_str, e_glob, e_op, e_chain, e_and, e_or, e_one, e_not, e_ife, e_tup, e_lst, e_call, s_set, s_setO, s_setT, s_par, s_aug, s_app, s_sto, s_exp, s_ret, s_ite, s_forr, s_whl, s_raise, s_tryR, s_frz, e_slice, evPs, evO, evI, gV0, gVs, gO0, gOs, iO0, iOs, sK0, sKs, canSet_ok, canOwn_ok, inF0, inFs, asg_name, setAll_cons, setAll_nil, asg_tup, asgs_nil, asgs_cons, ov_var, ov_non, ov_bl, ov_int, ov_str, ov_glob, ov_op, ov_chain, ov_and, ov_or, ov_one, ov_not, ov_ife, ov_tup, ov_lst, ov_call, ov_slice, ov_comp, resolve, Ev.plain, evOp, asgF, isFr, startF, endF, s_law_20, G2, G, hA, q, sub_i, du, h10]
  | cons x xs =>
    rw [hp] at q
    have q : evEq (PR P) (.list []) = some false := q
    have du := du (pr x) (by rw [hp]; rfl)
    have x0 : evIdx (PR P) (.int 0) = some (pr x) := idx_map (g := pr) (k := 0) (by rw [hp]; rfl)
    generalize duL P = D at *
    generalize hA : PR P = A at *
    unfold G3
    simp [evSs, e_var, e_non, e_bl, e_int, e_str, e_glob, e_op, e_chain, e_and, e_or, e_one, e_not, e_ife, e_tup, e_lst, e_call, s_set, s_setO, s_setT, s_par, s_aug, s_app, s_sto, s_exp, s_ret, s_ite, s_forr, s_whl, s_raise, s_tryR, s_frz, e_slice, evPs, evO, evI, gV0, gVs, gO0, gOs, iO0, iOs, sK0, sKs, canSet_ok, canOwn_ok, inF0, inFs, asg_name, setAll_cons, setAll_nil, asg_tup, asgs_nil, asgs_cons, ov_var, ov_non, ov_bl, ov_int, ov_str, ov_glob, ov_op, ov_chain, ov_and, ov_or, ov_one, ov_not, ov_ife, ov_tup, ov_lst, ov_call, ov_slice, ov_comp, resolve, Ev.plain, evOp, asgF, isFr, startF, endF, s_law_20, G2, G, hA, q, sub_i, x0, du, h10]
end
end K79


set_option Elab.async false
set_option linter.all false
set_option maxRecDepth 100000
set_option maxHeartbeats 1000000
set_option exponentiation.threshold 500
namespace K79
open PySem Ev RatL M79
theorem eqB (a b : Bool) : evEq (.bool a) (.bool b) = some (a == b) := by cases a <;> cases b <;> rfl
theorem cost_le {B : Nat} : ∀ {P : List (Nat × Nat)}, (∀ p ∈ P, p.1 ≤ B ∧ p.2 ≤ B) → cost P ≤ P.length * B
  | [], _ => by simp [cost]
  | p :: P, h => by
    have := cost_le (P := P) fun q hq => h q (List.mem_cons_of_mem _ hq)
    have := h p List.mem_cons_self
    rw [cost_cons, List.length_cons, Nat.succ_mul]
    unfold dist
    omega
theorem listMin_of {m : Int} : ∀ (r : List Int) (x : Int), m ≤ x → (∀ b ∈ r, m ≤ b) → (x = m ∨ m ∈ r) → listMin x r = m
  | [], x, _, _, h => by
    rcases h with h | h
    · exact h
    · cases h
  | y :: r, x, hx, hr, h => by
    rw [listMin]
    have hy := hr y List.mem_cons_self
    refine listMin_of r _ (by split <;> omega) (fun b hb => hr b (List.mem_cons_of_mem _ hb)) ?_
    rcases h with h | h
    · left; rw [if_neg (by omega)]; exact h
    · rcases List.mem_cons.mp h with h | h
      · left
        split <;> omega
      · exact .inr h
theorem min_map {α : Type} (f : α → Nat) {L : List α} {m : Nat} (h1 : ∀ a ∈ L, m ≤ f a) (h2 : ∃ a ∈ L, f a = m) : evBest listMin (.list (L.map fun a => PyData.int (f a : Int))) = some (.int (m : Int)) := by
  show (ints? (L.map fun a => PyData.int (f a : Int))).bind (best listMin) = _
  rw [ints_map]
  cases L with
  | nil => obtain ⟨a, ha, _⟩ := h2; cases ha
  | cons a L =>
    show some (PyData.int (listMin (f a : Int) (L.map fun a => (f a : Int)))) = _
    rw [listMin_of (m := (m : Int))]
    · have := h1 a List.mem_cons_self; omega
    · intro b hb
      obtain ⟨c, hc, rfl⟩ := List.mem_map.mp hb
      have := h1 c (List.mem_cons_of_mem _ hc); omega
    · obtain ⟨c, hc, e⟩ := h2
      rcases List.mem_cons.mp hc with rfl | hc
      · left; omega
      · right; exact List.mem_map.mpr ⟨c, hc, by omega⟩
theorem asg_sub (i j : Nat) (v : Dt) (f : Frm) : asg (.sub i j) v f = match getO f i, getV f j with
    | some xs, some (.int k) => (setAt xs k v).map fun ys => f.set i (.own ys)
    | _, _ => none := by rw [asg] <;> rfl
theorem setAt_pr {P : List (Nat × Nat)} {i : Nat} (h : i < P.length) (a b : Nat) : setAt (P.map pr) (i : Int) (.tuple [.int (a : Int), .int (b : Int)]) = some ((P.set i (a, b)).map pr) := by
  unfold setAt
  rw [List.length_map, ixOf_n h]
  show some ((P.map pr).set i (pr (a, b))) = _
  rw [List.map_set]
section
variable {sc : Dt} {o : List Dt} {t i d v wy r j : Slot} {P : List (Nat × Nat)} (h : La P)
include h
theorem c_bd : cost P ≤ 6060 ∧ cost (stl P) ≤ 6060 := by
  have a := cost_le h.inc
  have b := le_all (stl_e1 P) (stl_e2 P) (stl_srt P)
  have := Nat.mul_le_mul_right 1010 h.six
  omega
theorem du_show (k : Nat) (hk : k < 4) : showOk (dues P k) = true := by
  obtain ⟨b1, b2⟩ := c_bd h
  match k, hk with
  | 0, _ => exact (Sh.nat (n := cost P) (by omega)).ok (by decide) (by decide)
  | 1, _ => exact (Sh.nat (n := cost (stl P)) (by omega)).ok (by decide) (by decide)
  | 2, _ => exact (Sh.int (i := (cost P : Int) - (cost (stl P) : Int)) (by omega)).ok (by decide) (by decide)
  | 3, _ =>
    show showOk (optP (prs P).head?) = true
    cases hp : prs P with
    | nil => decide +kernel
    | cons x xs =>
      have m : (x.1, x.2) ∈ prs P := by rw [hp]; exact List.mem_cons_self
      obtain ⟨q1, q2, _⟩ := prs_mem.mp m
      have h6 := h.six
      refine (Sh.tup (w := 40) (k := 0) (n := 1000) (fun y hy => ?_) (by simp)).ok (by decide) (by decide)
      rcases List.mem_cons.mp hy with rfl | hy
      · exact Sh.nat (by omega)
      · rw [List.mem_singleton.mp hy]; exact Sh.nat (by omega)
omit h in
theorem strOk_i (i : Int) : PyData.strOk (PyData.shown (.int i)) = true := by
  unfold PyData.strOk
  rw [← Array.all_toList, List.all_eq_true]
  intro c hc
  by_cases big : c < 1114112
  · simpa using big
  · exact absurd hc (PyProof.Rows.shown_int_free' (k := c) ⟨by omega, .inr (by omega)⟩ i)
omit h in
theorem strOk_2 (a b : Int) : PyData.strOk (PyData.shown (.tuple [.int a, .int b])) = true := by
  unfold PyData.strOk
  rw [← Array.all_toList, List.all_eq_true]
  intro c hc
  by_cases big : c < 1114112
  · simpa using big
  · exfalso
    have f := fun i => PyProof.Rows.shown_int_free' (k := c) ⟨by omega, .inr (by omega)⟩ i
    have e : PyData.shown (.tuple [.int a, .int b]) = ("(" : Str) ++ Str.join ", " [PyData.shown (.int a), PyData.shown (.int b)] ++ (")" : String) := rfl
    have q1 : (("(" : Str).cps.toList) = [40] := by decide
    have q2 : ((Str.ofString ")").cps.toList) = [41] := by decide
    have q3 : ((", " : Str).cps.toList) = [44, 32] := by decide
    rw [e, PyProof.Rows.mem_cps_append, PyProof.Rows.mem_cps_append, PyProof.Rows.mem_join, q1, q2, q3] at hc
    simp only [List.mem_cons, List.not_mem_nil, or_false] at hc
    rcases hc with (hc | ⟨t, ht, hc⟩ | ⟨_, hc⟩) | hc
    · omega
    · rcases ht with rfl | rfl
      · exact f _ hc
      · exact f _ hc
    · omega
    · omega
omit h in
theorem du_str (P : List (Nat × Nat)) (k : Nat) : PyData.strOk (PyData.shown (dues P k)) = true := by
  match k with
  | 0 => exact strOk_i _
  | 1 => exact strOk_i _
  | 2 => exact strOk_i _
  | k + 3 =>
    show PyData.strOk (PyData.shown (optP (prs P).head?)) = true
    cases (prs P).head? with
    | none => decide +kernel
    | some x => exact strOk_2 _ _
def shwn (P : List (Nat × Nat)) : Dt := .list ((List.range 4).map fun k => .str (PyData.shown (dues P k)))
theorem st21 : evS W12 s_law_21 (G3 sc o t P i (.val (duL P)) v wy r j) = .next (G3 sc o t P i (.val (duL P)) v wy r j) := by
  have c5 : evE W12 c_law_5 (G3 sc o t P i (.val (duL P)) v wy r j) = .ok (shwn P, G3 sc o t P i (.val (duL P)) v wy r j) := by
    unfold c_law_5 shwn
    refine comp_t (xs := List.range 4) (fun (k : Nat) => PyData.int (k : Int)) _ ?_ (by simp [G3, G2, G, sK0, sKs]) fun k hk => ?_
    · have hr : rngOk 0 4 = _ := rng_0 (k := 4) (by omega)
      rw [evI, e_int]
      simp only [bind_ok', hr, ofO_some]
    · have hk := List.mem_range.mp hk
      have c : T.call 12 23 none [.int (k : Int), PD P] = _ := told_ok 6 h.ok k hk
      have sh := du_show h k hk
      simp [evSs, e_var, e_non, e_bl, e_int, e_str, e_glob, e_op, e_chain, e_and, e_or, e_one, e_not, e_ife, e_tup, e_lst, e_call, s_set, s_setO, s_setT, s_par, s_aug, s_app, s_sto, s_exp, s_ret, s_ite, s_forr, s_whl, s_raise, s_tryR, s_frz, e_slice, evPs, evO, evI, gV0, gVs, gO0, gOs, iO0, iOs, sK0, sKs, canSet_ok, canOwn_ok, inF0, inFs, asg_name, setAll_cons, setAll_nil, asg_tup, asgs_nil, asgs_cons, ov_var, ov_non, ov_bl, ov_int, ov_str, ov_glob, ov_op, ov_chain, ov_and, ov_or, ov_one, ov_not, ov_ife, ov_tup, ov_lst, ov_call, ov_slice, ov_comp, resolve, Ev.plain, evOp, asgF, isFr, startF, endF, G3, G2, G, c, sh]
  have c4 : evE W12 c_law_4 (G3 sc o t P i (.val (duL P)) v wy r j) = .ok (shwn P, G3 sc o t P i (.val (duL P)) v wy r j) := by
    unfold c_law_4 shwn
    refine comp_t (xs := List.range 4) (dues P) _ ?_ (by simp [G3, G2, G, sK0, sKs]) fun k hk => ?_
    · have s : seqOf (duL P) = some ((List.range 4).map (dues P)) := rfl
      generalize duL P = D at *
      simp [evSs, e_var, e_non, e_bl, e_int, e_str, e_glob, e_op, e_chain, e_and, e_or, e_one, e_not, e_ife, e_tup, e_lst, e_call, s_set, s_setO, s_setT, s_par, s_aug, s_app, s_sto, s_exp, s_ret, s_ite, s_forr, s_whl, s_raise, s_tryR, s_frz, e_slice, evPs, evO, evI, gV0, gVs, gO0, gOs, iO0, iOs, sK0, sKs, canSet_ok, canOwn_ok, inF0, inFs, asg_name, setAll_cons, setAll_nil, asg_tup, asgs_nil, asgs_cons, ov_var, ov_non, ov_bl, ov_int, ov_str, ov_glob, ov_op, ov_chain, ov_and, ov_or, ov_one, ov_not, ov_ife, ov_tup, ov_lst, ov_call, ov_slice, ov_comp, resolve, Ev.plain, evOp, asgF, isFr, startF, endF, G3, G2, G, s]
    · have sh := du_show h k (List.mem_range.mp hk)
      simp [evSs, e_var, e_non, e_bl, e_int, e_str, e_glob, e_op, e_chain, e_and, e_or, e_one, e_not, e_ife, e_tup, e_lst, e_call, s_set, s_setO, s_setT, s_par, s_aug, s_app, s_sto, s_exp, s_ret, s_ite, s_forr, s_whl, s_raise, s_tryR, s_frz, e_slice, evPs, evO, evI, gV0, gVs, gO0, gOs, iO0, iOs, sK0, sKs, canSet_ok, canOwn_ok, inF0, inFs, asg_name, setAll_cons, setAll_nil, asg_tup, asgs_nil, asgs_cons, ov_var, ov_non, ov_bl, ov_int, ov_str, ov_glob, ov_op, ov_chain, ov_and, ov_or, ov_one, ov_not, ov_ife, ov_tup, ov_lst, ov_call, ov_slice, ov_comp, resolve, Ev.plain, evOp, asgF, isFr, startF, endF, G3, G2, G, sh]
  have es : evEq (shwn P) (shwn P) = some true := eqL_self (shp_list (k := 0) (fun x hx => by obtain ⟨k, _, rfl⟩ := List.mem_map.mp hx; rw [PyData.canLay0]; exact du_str P k) (fun x hx => by obtain ⟨k, _, rfl⟩ := List.mem_map.mp hx; exact Nat.le_refl _) (by decide))
  have q := pr_nil h
  have hw : evEq (.int (cost P : Int)) (.int (cost (stl P) : Int)) = some (decide (prs P = [])) := by
    rw [evEq_int]
    congr 1
    rw [decide_eq_decide, key P]
    omega
  have e2 := eqB (decide (prs P = [])) (decide (prs P = []))
  generalize decide (prs P = []) = z at *
  generalize shwn P = S at *
  generalize duL P = D at *
  unfold G3 G2 G at *
  generalize PR P = A at *
  simp [evSs, e_var, e_non, e_bl, e_int, e_str, e_glob, e_op, e_chain, e_and, e_or, e_one, e_not, e_ife, e_tup, e_lst, e_call, s_set, s_setO, s_setT, s_par, s_aug, s_app, s_sto, s_exp, s_ret, s_ite, s_forr, s_whl, s_raise, s_tryR, s_frz, e_slice, evPs, evO, evI, gV0, gVs, gO0, gOs, iO0, iOs, sK0, sKs, canSet_ok, canOwn_ok, inF0, inFs, asg_name, setAll_cons, setAll_nil, asg_tup, asgs_nil, asgs_cons, ov_var, ov_non, ov_bl, ov_int, ov_str, ov_glob, ov_op, ov_chain, ov_and, ov_or, ov_one, ov_not, ov_ife, ov_tup, ov_lst, ov_call, ov_slice, ov_comp, resolve, Ev.plain, evOp, asgF, isFr, startF, endF, s_law_21, c5, oc_law_5, c4, oc_law_4, es, q, hw, eqB]
theorem ways : (h9 : isOwnS i = false) → evE W12 c_law_7 (G3 sc o t P i d v wy r j) = .ok (.list ((ords P.length P.length).map fun o => PyData.int (cost (ordP P o) : Int)), G3 sc o t P i d v wy r j) ∨ 5 < P.length := fun h9 => by
  by_cases h5 : 5 < P.length
  · exact .inr h5
  · left
    have co : T.call 12 20 none [.int (P.length : Int)] = _ := c_orders 11 (n := P.length) (by omega)
    unfold c_law_7
    refine comp_t (xs := ords P.length P.length) LT _ ?_ (by simp [G3, G2, G, sK0, sKs]) fun od hod => ?_
    · simp [evSs, e_var, e_non, e_bl, e_int, e_str, e_glob, e_op, e_chain, e_and, e_or, e_one, e_not, e_ife, e_tup, e_lst, e_call, s_set, s_setO, s_setT, s_par, s_aug, s_app, s_sto, s_exp, s_ret, s_ite, s_forr, s_whl, s_raise, s_tryR, s_frz, e_slice, evPs, evO, evI, gV0, gVs, gO0, gOs, iO0, iOs, sK0, sKs, canSet_ok, canOwn_ok, inF0, inFs, asg_name, setAll_cons, setAll_nil, asg_tup, asgs_nil, asgs_cons, ov_var, ov_non, ov_bl, ov_int, ov_str, ov_glob, ov_op, ov_chain, ov_and, ov_or, ov_one, ov_not, ov_ife, ov_tup, ov_lst, ov_call, ov_slice, ov_comp, resolve, Ev.plain, evOp, asgF, isFr, startF, endF, G3, G2, G, co, seqOf]
    · obtain ⟨o1, o2, o3⟩ := mem_ords.mp hod
      have c6 : evE W12 c_law_6 ((G3 sc o t P i d v wy r j).set 16 (.val (LT od))) = .ok (.list ((List.range P.length).map fun k => PyData.int (dist (P.getD k (0, 0)).1 (P.getD (od.getD k 0) (0, 0)).2 : Int)), (G3 sc o t P i d v wy r j).set 16 (.val (LT od))) := by
        unfold c_law_6
        refine comp_t (xs := List.range P.length) (fun (k : Nat) => PyData.int (k : Int)) _ ?_ (by simp [G3, G2, G, sK0, sKs, h9]) fun k hk => ?_
        · have hr := rng_0 (k := P.length) (by omega)
          simp [evSs, e_var, e_non, e_bl, e_int, e_str, e_glob, e_op, e_chain, e_and, e_or, e_one, e_not, e_ife, e_tup, e_lst, e_call, s_set, s_setO, s_setT, s_par, s_aug, s_app, s_sto, s_exp, s_ret, s_ite, s_forr, s_whl, s_raise, s_tryR, s_frz, e_slice, evPs, evO, evI, gV0, gVs, gO0, gOs, iO0, iOs, sK0, sKs, canSet_ok, canOwn_ok, inF0, inFs, asg_name, setAll_cons, setAll_nil, asg_tup, asgs_nil, asgs_cons, ov_var, ov_non, ov_bl, ov_int, ov_str, ov_glob, ov_op, ov_chain, ov_and, ov_or, ov_one, ov_not, ov_ife, ov_tup, ov_lst, ov_call, ov_slice, ov_comp, resolve, Ev.plain, evOp, asgF, isFr, startF, endF, G3, G2, G, hr]
        · have hk := List.mem_range.mp hk
          have ok : od.getD k 0 < P.length := by rw [getD_eq (show k < od.length by omega)]; exact o3 _ (List.getElem_mem _)
          have x1 := idx_P hk
          have x2 := idx_P ok
          have x3 : evIdx (LT od) (.int (k : Int)) = some (.int ((od.getD k 0 : Nat) : Int)) := idx_T (by rw [List.getElem?_eq_getElem (by omega), getD_eq (show k < od.length by omega)])
          generalize od.getD k 0 = m at *
          generalize P.getD k (0, 0) = p at *
          generalize P.getD m (0, 0) = q at *
          have i0 : evIdx (pr p) (.int 0) = some (.int (p.1 : Int)) := rfl
          have i1 : evIdx (pr q) (.int 1) = some (.int (q.2 : Int)) := rfl
          have ds := dist_i p.1 q.2
          simp [evSs, e_var, e_non, e_bl, e_int, e_str, e_glob, e_op, e_chain, e_and, e_or, e_one, e_not, e_ife, e_tup, e_lst, e_call, s_set, s_setO, s_setT, s_par, s_aug, s_app, s_sto, s_exp, s_ret, s_ite, s_forr, s_whl, s_raise, s_tryR, s_frz, e_slice, evPs, evO, evI, gV0, gVs, gO0, gOs, iO0, iOs, sK0, sKs, canSet_ok, canOwn_ok, inF0, inFs, asg_name, setAll_cons, setAll_nil, asg_tup, asgs_nil, asgs_cons, ov_var, ov_non, ov_bl, ov_int, ov_str, ov_glob, ov_op, ov_chain, ov_and, ov_or, ov_one, ov_not, ov_ife, ov_tup, ov_lst, ov_call, ov_slice, ov_comp, resolve, Ev.plain, evOp, asgF, isFr, startF, endF, G3, G2, G, x1, x2, x3, i0, i1, sub_i, ds]
      have su := sum_f (fun k => dist (P.getD k (0, 0)).1 (P.getD (od.getD k 0) (0, 0)).2) (List.range P.length)
      have ec : ((List.range P.length).map fun k => dist (P.getD k (0, 0)).1 (P.getD (od.getD k 0) (0, 0)).2).sum = cost (ordP P od) := by
        unfold cost ordP
        rw [List.map_map]
        rfl
      rw [ec] at su
      generalize PyData.list ((List.range P.length).map fun k => PyData.int (dist (P.getD k (0, 0)).1 (P.getD (od.getD k 0) (0, 0)).2 : Int)) = A at *
      generalize (G3 sc o t P i d v wy r j).set 16 (.val (LT od)) = F at *
      simp only [e_op, evPs, oc_law_6, c6, bind_ok', resolve, Option.map_some, Option.bind_some, evOp, su, ofO_some]
theorem st22 (h9 : isOwnS i = false) (h12 : isOwnS wy = false) : ∃ b, isOwnS b = false ∧ evS W12 s_law_22 (G3 sc o t P i d v wy r j) = .next (G3 sc o t P i d v b r j) := by
  by_cases h5 : P.length ≤ 5
  · have c7 := (ways (sc := sc) (o := o) (t := t) (d := d) (v := v) (wy := wy) (r := r) (j := j) h h9).resolve_right (by omega)
    have mo := min_ords (stl_e1 P) (stl_e2 P) (stl_srt P)
    have mn := min_map (fun o => cost (ordP P o)) mo.1 mo.2
    refine ⟨.val (.list ((ords P.length P.length).map fun o => PyData.int (cost (ordP P o) : Int))), rfl, ?_⟩
    generalize PyData.list ((ords P.length P.length).map fun o => PyData.int (cost (ordP P o) : Int)) = A at *
    have h5' : decide ((P.length : Int) ≤ 5) = true := decide_eq_true (by omega)
    have e0 : evEq (.int (cost (stl P) : Int)) (.int (cost (stl P) : Int)) = some true := by rw [evEq_int, decide_eq_true rfl]
    unfold G3 G2 G at *
    simp [evSs, e_var, e_non, e_bl, e_int, e_str, e_glob, e_op, e_chain, e_and, e_or, e_one, e_not, e_ife, e_tup, e_lst, e_call, s_set, s_setO, s_setT, s_par, s_aug, s_app, s_sto, s_exp, s_ret, s_ite, s_forr, s_whl, s_raise, s_tryR, s_frz, e_slice, evPs, evO, evI, gV0, gVs, gO0, gOs, iO0, iOs, sK0, sKs, canSet_ok, canOwn_ok, inF0, inFs, asg_name, setAll_cons, setAll_nil, asg_tup, asgs_nil, asgs_cons, ov_var, ov_non, ov_bl, ov_int, ov_str, ov_glob, ov_op, ov_chain, ov_and, ov_or, ov_one, ov_not, ov_ife, ov_tup, ov_lst, ov_call, ov_slice, ov_comp, resolve, Ev.plain, evOp, asgF, isFr, startF, endF, s_law_22, s_law_3, s_law_4, evCmp, h5', h5, c7, h12, mn, e0]
  · have h5' : decide ((P.length : Int) ≤ 5) = false := decide_eq_false (by omega)
    exact ⟨wy, h12, by simp [evSs, e_var, e_non, e_bl, e_int, e_str, e_glob, e_op, e_chain, e_and, e_or, e_one, e_not, e_ife, e_tup, e_lst, e_call, s_set, s_setO, s_setT, s_par, s_aug, s_app, s_sto, s_exp, s_ret, s_ite, s_forr, s_whl, s_raise, s_tryR, s_frz, e_slice, evPs, evO, evI, gV0, gVs, gO0, gOs, iO0, iOs, sK0, sKs, canSet_ok, canOwn_ok, inF0, inFs, asg_name, setAll_cons, setAll_nil, asg_tup, asgs_nil, asgs_cons, ov_var, ov_non, ov_bl, ov_int, ov_str, ov_glob, ov_op, ov_chain, ov_and, ov_or, ov_one, ov_not, ov_ife, ov_tup, ov_lst, ov_call, ov_slice, ov_comp, resolve, Ev.plain, evOp, asgF, isFr, startF, endF, s_law_22, G3, G2, G, evCmp, h5', h5]⟩
theorem st23 (h9 : isOwnS i = false) (hr : isOwnS r = false) (hj : isOwnS j = false) : ∃ a b c, isOwnS a = false ∧ isOwnS b = false ∧ isOwnS c = false ∧ evS W12 s_law_23 (G3 sc o t P i d v wy r j) = .next (G3 sc o t P a d v wy b c) := by
  have q := pr_nil h
  cases hp : prs P with
  | nil =>
    rw [hp] at q
    have q : evEq (PR P) (.list []) = some true := q
    generalize hA : PR P = A at *
    exact ⟨i, r, j, h9, hr, hj, by unfold G3; simp [evSs, e_var, e_non, e_bl, e_int, e_str, e_glob, e_op, e_chain, e_and, e_or, e_one, e_not, e_ife, e_tup, e_lst, e_call, s_set, s_setO, s_setT, s_par, s_aug, s_app, s_sto, s_exp, s_ret, s_ite, s_forr, s_whl, s_raise, s_tryR, s_frz, e_slice, evPs, evO, evI, gV0, gVs, gO0, gOs, iO0, iOs, sK0, sKs, canSet_ok, canOwn_ok, inF0, inFs, asg_name, setAll_cons, setAll_nil, asg_tup, asgs_nil, asgs_cons, ov_var, ov_non, ov_bl, ov_int, ov_str, ov_glob, ov_op, ov_chain, ov_and, ov_or, ov_one, ov_not, ov_ife, ov_tup, ov_lst, ov_call, ov_slice, ov_comp, resolve, Ev.plain, evOp, asgF, isFr, startF, endF, s_law_23, G2, G, hA, q]⟩
  | cons x xs =>
    rw [hp] at q
    have q : evEq (PR P) (.list []) = some false := q
    have cx : T.call 12 12 none [PD P] = _ := c_crossing 7 h.ok
    rw [hp] at cx
    obtain ⟨m, k⟩ := x
    have cx : T.call 12 12 none [PD P] = .ok (.tuple [.int (m : Int), .int (k : Int)]) [] := cx
    obtain ⟨hm, hk, ne, lt⟩ := prs_swp (P := P) (i := m) (j := k) (by rw [hp]; exact List.mem_cons_self)
    have x1 := idx_P hm
    have x2 := idx_P hk
    have ch : T.call 12 7 none [PD (swp P m k)] = _ := c_change 7 (swp_P h.ok hm hk)
    have sw : PD (swp P m k) = .tuple (((P.set m ((P.getD m (0, 0)).1, (P.getD k (0, 0)).2)).set k ((P.getD k (0, 0)).1, (P.getD m (0, 0)).2)).map pr) := rfl
    have s1 := setAt_pr hm (P.getD m (0, 0)).1 (P.getD k (0, 0)).2
    have s2 := setAt_pr (P := P.set m ((P.getD m (0, 0)).1, (P.getD k (0, 0)).2)) (i := k) (by rw [List.length_set]; exact hk) (P.getD k (0, 0)).1 (P.getD m (0, 0)).2
    have ls : evList (PD P) = some (.list (P.map pr)) := rfl
    have tp : evTuple (.list (((P.set m ((P.getD m (0, 0)).1, (P.getD k (0, 0)).2)).set k ((P.getD k (0, 0)).1, (P.getD m (0, 0)).2)).map pr)) = some (PD (swp P m k)) := rfl
    have ge : decide ((cost P : Int) ≤ (cost (swp P m k) : Int)) = false := decide_eq_false (by omega)
    have ge' : ¬ cost P ≤ cost (swp P m k) := by omega
    clear sw
    generalize cost (swp P m k) = cs at *
    generalize PD (swp P m k) = SW at *
    generalize ((P.set m ((P.getD m (0, 0)).1, (P.getD k (0, 0)).2)).set k ((P.getD k (0, 0)).1, (P.getD m (0, 0)).2)).map pr = Z2 at *
    generalize (P.set m ((P.getD m (0, 0)).1, (P.getD k (0, 0)).2)).map pr = Z1 at *
    have p1 : pr (P.getD m (0, 0)) = .tuple [.int ((P.getD m (0, 0)).1 : Int), .int ((P.getD m (0, 0)).2 : Int)] := rfl
    have p2 : pr (P.getD k (0, 0)) = .tuple [.int ((P.getD k (0, 0)).1 : Int), .int ((P.getD k (0, 0)).2 : Int)] := rfl
    rw [p1] at x1
    rw [p2] at x2
    clear p1 p2
    generalize (P.getD m (0, 0)).1 = u1 at *
    generalize (P.getD m (0, 0)).2 = u2 at *
    generalize (P.getD k (0, 0)).1 = w1 at *
    generalize (P.getD k (0, 0)).2 = w2 at *
    have i0 : ∀ a b : Int, evIdx (.tuple [.int a, .int b]) (.int 0) = some (.int a) := fun _ _ => rfl
    have i1 : ∀ a b : Int, evIdx (.tuple [.int a, .int b]) (.int 1) = some (.int b) := fun _ _ => rfl
    have fl : Op.fr .list = true := rfl
    generalize hA : PR P = A at *
    generalize P.map pr = Z0 at *
    exact ⟨.val (.int (m : Int)), .val (.list Z2), .val (.int (k : Int)), rfl, rfl, rfl, by unfold G3; simp [evSs, e_var, e_non, e_bl, e_int, e_str, e_glob, e_op, e_chain, e_and, e_or, e_one, e_not, e_ife, e_tup, e_lst, e_call, s_set, s_setO, s_setT, s_par, s_aug, s_app, s_sto, s_exp, s_ret, s_ite, s_forr, s_whl, s_raise, s_tryR, s_frz, e_slice, evPs, evO, evI, gV0, gVs, gO0, gOs, iO0, iOs, sK0, sKs, canSet_ok, canOwn_ok, inF0, inFs, asg_name, setAll_cons, setAll_nil, asg_tup, asgs_nil, asgs_cons, ov_var, ov_non, ov_bl, ov_int, ov_str, ov_glob, ov_op, ov_chain, ov_and, ov_or, ov_one, ov_not, ov_ife, ov_tup, ov_lst, ov_call, ov_slice, ov_comp, resolve, Ev.plain, evOp, asgF, isFr, startF, endF, s_law_23, s_law_6, s_law_7, s_law_8, s_law_9, s_law_10, G2, G, hA, q, cx, ls, fl, x1, x2, i0, i1, asg_sub, s1, s2, tp, ch, evCmp, ge', h9, hr, hj]⟩
theorem st24 : evS W12 s_law_24 (G3 sc o t P i d v wy r j) = .next (G3 sc o t P i d v wy r j) := by
  have c1 : T.call 12 14 none [PD P] = _ := c_settled 6 h.ok
  have c2 : T.call 12 10 none [PD (stl P)] = _ := c_exchange 7 (stl_P h.ok)
  have c3 : T.call 12 12 none [PD (stl P)] = _ := c_crossing 7 (stl_P h.ok)
  rw [stl_stl, Int.sub_self] at c2
  have nil : prs (stl P) = [] := (key (stl P)).mpr (by rw [stl_stl])
  rw [nil] at c3
  have c3 : T.call 12 12 none [PD (stl P)] = .ok .none [] := c3
  have e0 : evEq (.int 0) (.int 0) = some true := rfl
  simp [evSs, e_var, e_non, e_bl, e_int, e_str, e_glob, e_op, e_chain, e_and, e_or, e_one, e_not, e_ife, e_tup, e_lst, e_call, s_set, s_setO, s_setT, s_par, s_aug, s_app, s_sto, s_exp, s_ret, s_ite, s_forr, s_whl, s_raise, s_tryR, s_frz, e_slice, evPs, evO, evI, gV0, gVs, gO0, gOs, iO0, iOs, sK0, sKs, canSet_ok, canOwn_ok, inF0, inFs, asg_name, setAll_cons, setAll_nil, asg_tup, asgs_nil, asgs_cons, ov_var, ov_non, ov_bl, ov_int, ov_str, ov_glob, ov_op, ov_chain, ov_and, ov_or, ov_one, ov_not, ov_ife, ov_tup, ov_lst, ov_call, ov_slice, ov_comp, resolve, Ev.plain, evOp, asgF, isFr, startF, endF, s_law_24, G3, G2, G, c1, c2, c3, e0, isNon]
end
end K79


set_option Elab.async false
set_option linter.all false
set_option maxRecDepth 100000
set_option maxHeartbeats 1000000
set_option exponentiation.threshold 500
namespace K79
open PySem Ev RatL M79
def ML (n : Nat) : List Dt := List.replicate n MAL
section
variable {sc : Dt} {o : List Dt} {t i d v wy r j : Slot} {P : List (Nat × Nat)} (h : La P)
def v8 (n : Nat) : List Dt := [.none, .tuple [.int 0], .tuple [.int 0, .int (n : Int)], .tuple [.int (-1), .int 0], .list [.int 0, .int 1], .tuple [.bool true, .int 0], .tuple [.int 0, .int 0, .int 0], .int 5]
include h
theorem st25 (w : OkW o) (h11 : isOwnS v = false) : ∃ b o', isOwnS b = false ∧ OkW o' ∧ evS W12 s_law_25 (G3 sc o t P i d v wy r j) = .next (G3 sc o' t P i d b wy r j) := by
  have hp := h.ok.pos
  have h6 := h.six
  obtain ⟨ws, o1, lw, hw, w1, e8⟩ : ∃ (ws : List (Nat × Nat)) (o1 : List Dt), ws.length = (List.range 4).length ∧ (∀ x ∈ ws, True) ∧ OkW o1 ∧ evE W12 c_law_8 (G3 sc o t P i d v wy r j) = .ok (.list (ws.map pr), G3 sc o1 t P i d v wy r j) := by
    unfold c_law_8
    refine comp_draw (W := W12) (v := 15) (xs := List.range 4) (fun (i : Nat) => PyData.int (i : Int)) pr (fun _ => True) OkW (fun o => G3 sc o t P i d v wy r j) w ?_ (fun _ => by simp [G3, G2, G, sK0, sKs]) (fun _ _ => rfl) fun x _ o ho => ?_
    · have hr : rngOk 0 4 = _ := rng_0 (k := 4) (by omega)
      rw [evI, e_int]
      simp only [bind_ok', hr, ofO_some]
    · obtain ⟨a, o2, a1, w2, e2⟩ := c_take 11 ho P.length (by omega) (Nat.lt_of_le_of_lt h6 (by decide))
      obtain ⟨b, o3, b1, w3, e3⟩ := c_take 11 w2 P.length (by omega) (Nat.lt_of_le_of_lt h6 (by decide))
      have e2 : T.call 12 16 (some o) [.int (P.length : Int)] = .ok (.int (a : Int)) o2 := e2
      have e3 : T.call 12 16 (some o2) [.int (P.length : Int)] = .ok (.int (b : Int)) o3 := e3
      exact ⟨(a, b), o3, trivial, w3, by simp [evSs, e_var, e_non, e_bl, e_int, e_str, e_glob, e_op, e_chain, e_and, e_or, e_one, e_not, e_ife, e_tup, e_lst, e_call, s_set, s_setO, s_setT, s_par, s_aug, s_app, s_sto, s_exp, s_ret, s_ite, s_forr, s_whl, s_raise, s_tryR, s_frz, e_slice, evPs, evO, evI, gV0, gVs, gO0, gOs, iO0, iOs, sK0, sKs, canSet_ok, canOwn_ok, inF0, inFs, asg_name, setAll_cons, setAll_nil, asg_tup, asgs_nil, asgs_cons, ov_var, ov_non, ov_bl, ov_int, ov_str, ov_glob, ov_op, ov_chain, ov_and, ov_or, ov_one, ov_not, ov_ife, ov_tup, ov_lst, ov_call, ov_slice, ov_comp, resolve, Ev.plain, evOp, asgF, isFr, startF, endF, G3, G2, G, e2, e3, pr]⟩
  rw [List.length_range] at lw
  obtain ⟨V, hV⟩ : ∃ V : List Dt, V = (((prs P).take 2).map pr ++ ws.map pr) ++ v8 P.length := ⟨_, rfl⟩
  have okV : ∀ x ∈ V, okE x = true := fun x hx => by
    rw [hV] at hx
    rcases List.mem_append.mp hx with hx | hx
    · rcases List.mem_append.mp hx with hx | hx
      · obtain ⟨q, _, rfl⟩ := List.mem_map.mp hx; rfl
      · obtain ⟨q, _, rfl⟩ := List.mem_map.mp hx; rfl
    · unfold v8 at hx
      simp only [List.mem_cons, List.not_mem_nil, or_false] at hx
      rcases hx with rfl | rfl | rfl | rfl | rfl | rfl | rfl | rfl <;> rfl
  obtain ⟨f', e, _, b, hb, ef⟩ := for_list (tg := .name 11) (body := evSs W12 l_law_1) (g := fun x : Dt => x) (I := fun rest f => (∀ x ∈ rest, okE x = true) ∧ ∃ b, isOwnS b = false ∧ f = G3 sc o1 t P i d b wy r j) (xs := V)
    (by
      rintro x rest f ⟨hr, b, hb, rfl⟩
      have ox := hr x List.mem_cons_self
      have c1 : T.call 12 13 none [PD P, x] = _ := c_is_crossing 7 h.ok ox
      have c2 : T.call 12 22 none [PD P, x] = _ := c_lcrosses 7 (P := P) ox
      have c3 : T.call 12 17 none [.bool (isCr P x), .bool (isCr P x)] = .ok (.bool true) [] := by
        rw [call_def (fn := f__law_says) rfl ⟨rfl, rfl, by decide⟩]
        have q := eqB (isCr P x) (isCr P x)
        simp [evSs, e_var, e_non, e_bl, e_int, e_str, e_glob, e_op, e_chain, e_and, e_or, e_one, e_not, e_ife, e_tup, e_lst, e_call, s_set, s_setO, s_setT, s_par, s_aug, s_app, s_sto, s_exp, s_ret, s_ite, s_forr, s_whl, s_raise, s_tryR, s_frz, e_slice, evPs, evO, evI, gV0, gVs, gO0, gOs, iO0, iOs, sK0, sKs, canSet_ok, canOwn_ok, inF0, inFs, asg_name, setAll_cons, setAll_nil, asg_tup, asgs_nil, asgs_cons, ov_var, ov_non, ov_bl, ov_int, ov_str, ov_glob, ov_op, ov_chain, ov_and, ov_or, ov_one, ov_not, ov_ife, ov_tup, ov_lst, ov_call, ov_slice, ov_comp, resolve, Ev.plain, evOp, asgF, isFr, startF, endF, f__law_says, b__law_says, isDict, tyOk, isTy, tyName, q]
      generalize isCr P x = z at *
      exact ⟨G3 sc o1 t P i d (.val x) wy r j, by rw [asg_name]; simp [G3, G2, G, sKs, sK0, hb], G3 sc o1 t P i d (.val x) wy r j, by simp [evSs, e_var, e_non, e_bl, e_int, e_str, e_glob, e_op, e_chain, e_and, e_or, e_one, e_not, e_ife, e_tup, e_lst, e_call, s_set, s_setO, s_setT, s_par, s_aug, s_app, s_sto, s_exp, s_ret, s_ite, s_forr, s_whl, s_raise, s_tryR, s_frz, e_slice, evPs, evO, evI, gV0, gVs, gO0, gOs, iO0, iOs, sK0, sKs, canSet_ok, canOwn_ok, inF0, inFs, asg_name, setAll_cons, setAll_nil, asg_tup, asgs_nil, asgs_cons, ov_var, ov_non, ov_bl, ov_int, ov_str, ov_glob, ov_op, ov_chain, ov_and, ov_or, ov_one, ov_not, ov_ife, ov_tup, ov_lst, ov_call, ov_slice, ov_comp, resolve, Ev.plain, evOp, asgF, isFr, startF, endF, l_law_1, s_law_13, G3, G2, G, c1, c2, c3], fun y hy => hr y (List.mem_cons_of_mem _ hy), .val x, rfl, rfl⟩)
    (f := G3 sc o1 t P i d v wy r j) ⟨okV, v, h11, rfl⟩
  subst ef
  rw [List.map_id'] at e
  refine ⟨b, o1, hb, w1, ?_⟩
  unfold s_law_25
  rw [s_forr]
  have sl : evSlice (PR P) none (some 2) = some (.list (((prs P).take 2).map pr)) := slice_to (g := pr) (prs P) 2
  have l2 : ((prs P).take 2).length ≤ 2 := by rw [List.length_take]; omega
  have a1 : evAdd (.list (((prs P).take 2).map pr)) (.list (ws.map pr)) = some (.list (((prs P).take 2).map pr ++ ws.map pr)) := add_Y (by rw [List.length_map, List.length_map]; omega)
  have a2 : evAdd (.list (((prs P).take 2).map pr ++ ws.map pr)) (.list [.none, .tuple [.int 0], .tuple [.int 0, .int (P.length : Int)], .tuple [.int (-1), .int 0], .list [.int 0, .int 1], .tuple [.bool true, .int 0], .tuple [.int 0, .int 0, .int 0], .int 5]) = some (.list V) := by
    rw [hV]
    exact add_Y (by rw [List.length_append, List.length_map, List.length_map]; simp; omega)
  have m1 : evInt1 (fun i => -i) (.int 1) = some (.int (-1)) := rfl
  have sq : seqOf (.list V) = some V := rfl
  have ei : ∀ x, x = evI W12 (.seq (.op .add (.cons (.op .add (.cons (.slice (.var 8) .nil (.cons (.int 2) .nil)) (.cons c_law_8 .nil))) (.cons (.lst (.cons .non (.cons (.tup (.cons (.int 0) .nil)) (.cons (.tup (.cons (.int 0) (.cons (.var 5) .nil))) (.cons (.tup (.cons (.op .neg (.cons (.int 1) .nil)) (.cons (.int 0) .nil))) (.cons (.lst (.cons (.int 0) (.cons (.int 1) .nil))) (.cons (.tup (.cons (.bl true) (.cons (.int 0) .nil))) (.cons (.tup (.cons (.int 0) (.cons (.int 0) (.cons (.int 0) .nil)))) (.cons (.int 5) .nil))))))))) .nil)))) (G3 sc o t P i d v wy r j) → x = .ok (V, G3 sc o1 t P i d v wy r j) := fun x hx => by
    rw [hx]
    generalize PyData.list V = VV at *
    generalize PyData.list (((prs P).take 2).map pr ++ ws.map pr) = A2 at *
    generalize PyData.list (((prs P).take 2).map pr) = A1 at *
    generalize PyData.list (ws.map pr) = A0 at *
    unfold G3 at e8 ⊢
    generalize PR P = R at *
    unfold G2 G at e8 ⊢
    simp [evSs, e_var, e_non, e_bl, e_int, e_str, e_glob, e_op, e_chain, e_and, e_or, e_one, e_not, e_ife, e_tup, e_lst, e_call, s_set, s_setO, s_setT, s_par, s_aug, s_app, s_sto, s_exp, s_ret, s_ite, s_forr, s_whl, s_raise, s_tryR, s_frz, e_slice, evPs, evO, evI, gV0, gVs, gO0, gOs, iO0, iOs, sK0, sKs, canSet_ok, canOwn_ok, inF0, inFs, asg_name, setAll_cons, setAll_nil, asg_tup, asgs_nil, asgs_cons, ov_var, ov_non, ov_bl, ov_int, ov_str, ov_glob, ov_op, ov_chain, ov_and, ov_or, ov_one, ov_not, ov_ife, ov_tup, ov_lst, ov_call, ov_slice, ov_comp, resolve, Ev.plain, evOp, asgF, isFr, startF, endF, sl, e8, oc_law_8, a1, m1, a2, sq]
  rw [ei _ rfl]
  exact e
end
theorem turnL {sc : Dt} {o : List Dt} {t pn n l w p i d v wy r j : Slot} (ok : OkW o) (h4 : isOwnS pn = false) (h5 : isOwnS n = false) (h6 : isOwnS l = false) (h7 : isOwnS w = false) (h8 : isOwnS p = false) (h9 : isOwnS i = false) (h10 : isOwnS d = false) (h11 : isOwnS v = false) (h12 : isOwnS wy = false) (h13 : isOwnS r = false) (h14 : isOwnS j = false) :
    ∃ P o' i' d' v' wy' r' j', La P ∧ OkW o' ∧ isOwnS i' = false ∧ isOwnS d' = false ∧ isOwnS v' = false ∧ isOwnS wy' = false ∧ isOwnS r' = false ∧ isOwnS j' = false ∧ evSs W12 l_law_2 (G sc o t pn n l w p i d v wy r j) = .next (G3 sc o' t P i' d' v' wy' r' j') := by
  obtain ⟨P, o1, h, w1, e14⟩ := st14 (sc := sc) (t := t) (n := n) (l := l) (w := w) (p := p) (i := i) (d := d) (v := v) (wy := wy) (r := r) (j := j) ok h4
  have e15 := st15 (sc := sc) (o := o1) (t := t) (l := l) (w := w) (p := p) (i := i) (d := d) (v := v) (wy := wy) (r := r) (j := j) h h5
  have e16 := st16 (sc := sc) (o := o1) (t := t) (w := w) (p := p) (i := i) (d := d) (v := v) (wy := wy) (r := r) (j := j) h h6
  have e17 := st17 (sc := sc) (o := o1) (t := t) (p := p) (i := i) (d := d) (v := v) (wy := wy) (r := r) (j := j) h h7
  have e18 := st18 (sc := sc) (o := o1) (t := t) (i := i) (d := d) (v := v) (wy := wy) (r := r) (j := j) h h8
  obtain ⟨b, hb, e19⟩ := st19 (sc := sc) (o := o1) (t := t) (d := d) (v := v) (wy := wy) (r := r) h h9 h14
  have e20 := st20 (sc := sc) (o := o1) (t := t) (i := b) (v := v) (wy := wy) (r := r) (j := j) h h10
  have e21 := st21 (sc := sc) (o := o1) (t := t) (i := b) (v := v) (wy := wy) (r := r) (j := j) h
  obtain ⟨b12, g12, e22⟩ := st22 (sc := sc) (o := o1) (t := t) (i := b) (d := .val (duL P)) (v := v) (r := r) (j := j) h hb h12
  obtain ⟨b9, b13, b14, g9, g13, g14, e23⟩ := st23 (sc := sc) (o := o1) (t := t) (d := .val (duL P)) (v := v) (wy := b12) h hb h13 h14
  have e24 := st24 (sc := sc) (o := o1) (t := t) (i := b9) (d := .val (duL P)) (v := v) (wy := b12) (r := b13) (j := b14) h
  obtain ⟨b11, o2, g11, w2, e25⟩ := st25 (sc := sc) (t := t) (i := b9) (d := .val (duL P)) (wy := b12) (r := b13) (j := b14) h w1 h11
  refine ⟨P, o2, b9, .val (duL P), b11, b12, b13, b14, h, w2, g9, rfl, g11, g12, g13, g14, ?_⟩
  unfold l_law_2
  rw [evSs, e14]
  dsimp only
  rw [evSs, e15]
  dsimp only
  rw [evSs, e16]
  dsimp only
  rw [evSs, e17]
  dsimp only
  rw [evSs, e18]
  dsimp only
  rw [evSs, e19]
  dsimp only
  rw [evSs, e20]
  dsimp only
  rw [evSs, e21]
  dsimp only
  rw [evSs, e22]
  dsimp only
  rw [evSs, e23]
  dsimp only
  rw [evSs, e24]
  dsimp only
  rw [evSs, e25]
  dsimp only
  rw [evSs]
theorem st27 {sc : Dt} {o : List Dt} (w : OkW o) : ∃ P o' t i d v wy r j, La P ∧ OkW o' ∧ evS W12 s_law_27 (G sc o .no .no .no .no .no .no .no .no .no .no .no .no) = .next (G3 sc o' t P i d v wy r j) := by
  obtain ⟨f', e, o', t, pn, n, l, w', p, i, d, v, wy, r, j, _, _, _, _, _, _, _, _, _, _, _, _, _, ef, hh⟩ := for_range (tg := .name 2) (body := evSs W12 l_law_2) (n := 2) (g := fun (i : Nat) => PyData.int (i : Int))
    (I := fun k f => ∃ o t pn n l w p i d v wy r j, OkW o ∧ isOwnS t = false ∧ isOwnS pn = false ∧ isOwnS n = false ∧ isOwnS l = false ∧ isOwnS w = false ∧ isOwnS p = false ∧ isOwnS i = false ∧ isOwnS d = false ∧ isOwnS v = false ∧ isOwnS wy = false ∧ isOwnS r = false ∧ isOwnS j = false ∧ f = G sc o t pn n l w p i d v wy r j ∧ (k ≠ 0 → ∃ P, La P ∧ OkW o ∧ G sc o t pn n l w p i d v wy r j = G3 sc o t P i d v wy r j))
    (by
      rintro k f _ ⟨o, t, pn, n, l, w, p, i, d, v, wy, r, j, ok, ht, h4, h5, h6, h7, h8, h9, h10, h11, h12, h13, h14, rfl, _⟩
      obtain ⟨P, o', i', d', v', wy', r', j', h, w', g9, g10, g11, g12, g13, g14, e⟩ := turnL (sc := sc) (t := .val (.int (k : Int))) ok h4 h5 h6 h7 h8 h9 h10 h11 h12 h13 h14
      exact ⟨G sc o (.val (.int (k : Int))) pn n l w p i d v wy r j, by rw [asg_name]; simp [G, sKs, sK0, ht], _, e, o', .val (.int (k : Int)), _, _, _, _, _, i', d', v', wy', r', j', w', rfl, rfl, rfl, rfl, rfl, rfl, g9, g10, g11, g12, g13, g14, rfl, fun _ => ⟨P, h, w', rfl⟩⟩)
    (f := G sc o .no .no .no .no .no .no .no .no .no .no .no .no) ⟨o, .no, .no, .no, .no, .no, .no, .no, .no, .no, .no, .no, .no, w, rfl, rfl, rfl, rfl, rfl, rfl, rfl, rfl, rfl, rfl, rfl, rfl, rfl, fun h => absurd rfl h⟩
  obtain ⟨P, h, w2, eg⟩ := hh (by decide)
  subst ef
  rw [eg] at e
  refine ⟨P, o', t, i, d, v, wy, r, j, h, w2, ?_⟩
  unfold s_law_27
  rw [s_forr]
  have hr : rngOk 0 2 = some ((List.range 2).map fun (i : Nat) => PyData.int (i : Int)) := rng_0 (k := 2) (by decide)
  have ei : evI W12 (.rng1 (.int 2)) (G sc o .no .no .no .no .no .no .no .no .no .no .no .no) = .ok ((List.range 2).map fun (i : Nat) => PyData.int (i : Int), G sc o .no .no .no .no .no .no .no .no .no .no .no .no) := by
    rw [evI, e_int]
    simp only [bind_ok', hr, ofO_some]
  rw [ei]
  exact e
theorem evals : ∀ ns : List Int, ns.length ≤ 63 → (tab fu).call 13 24 none [.list (ns.map PyData.int)] = .ok (.bool true) [] := by
  intro ns _
  obtain ⟨o, w, e0⟩ := c_draw 11 ns
  have e0 : T.call 12 15 none [.list (ns.map PyData.int)] = .ok (.list o) [] := e0
  obtain ⟨P, o1, t, i, d, v, wy, r, j, h, w1, e27⟩ := st27 (sc := .list (ns.map PyData.int)) w
  obtain ⟨x, o2, hx, w2, ex⟩ := c_odd 10 w1 h.ok
  have ex : T.call 12 19 (some o1) [PD P] = .ok x o2 := ex
  rw [call_def (fn := f_law) rfl ⟨rfl, rfl, by decide⟩]
  have s0 : startF f_law.names.length none [.list (ns.map PyData.int)] = [.val (.list (ns.map PyData.int)), .no, .no, .no, .no, .no, .no, .no, .no, .no, .no, .no, .no, .no, .no, .no, .no, .no, .no, .no] := rfl
  rw [s0]
  show endF false (evSs W12 b_law _) = _
  have k26 : evS W12 s_law_26 [.val (.list (ns.map PyData.int)), .no, .no, .no, .no, .no, .no, .no, .no, .no, .no, .no, .no, .no, .no, .no, .no, .no, .no, .no] = .next (G (.list (ns.map PyData.int)) o .no .no .no .no .no .no .no .no .no .no .no .no) := by
    simp [evSs, e_var, e_non, e_bl, e_int, e_str, e_glob, e_op, e_chain, e_and, e_or, e_one, e_not, e_ife, e_tup, e_lst, e_call, s_set, s_setO, s_setT, s_par, s_aug, s_app, s_sto, s_exp, s_ret, s_ite, s_forr, s_whl, s_raise, s_tryR, s_frz, e_slice, evPs, evO, evI, gV0, gVs, gO0, gOs, iO0, iOs, sK0, sKs, canSet_ok, canOwn_ok, inF0, inFs, asg_name, setAll_cons, setAll_nil, asg_tup, asgs_nil, asgs_cons, ov_var, ov_non, ov_bl, ov_int, ov_str, ov_glob, ov_op, ov_chain, ov_and, ov_or, ov_one, ov_not, ov_ife, ov_tup, ov_lst, ov_call, ov_slice, ov_comp, resolve, Ev.plain, evOp, asgF, isFr, startF, endF, s_law_26, e0, G]
  have k28 : evS W12 s_law_28 (G3 (.list (ns.map PyData.int)) o1 t P i d v wy r j) = .next ((G3 (.list (ns.map PyData.int)) o2 t P i d v wy r j).set 3 (.val x)) := by
    simp [evSs, e_var, e_non, e_bl, e_int, e_str, e_glob, e_op, e_chain, e_and, e_or, e_one, e_not, e_ife, e_tup, e_lst, e_call, s_set, s_setO, s_setT, s_par, s_aug, s_app, s_sto, s_exp, s_ret, s_ite, s_forr, s_whl, s_raise, s_tryR, s_frz, e_slice, evPs, evO, evI, gV0, gVs, gO0, gOs, iO0, iOs, sK0, sKs, canSet_ok, canOwn_ok, inF0, inFs, asg_name, setAll_cons, setAll_nil, asg_tup, asgs_nil, asgs_cons, ov_var, ov_non, ov_bl, ov_int, ov_str, ov_glob, ov_op, ov_chain, ov_and, ov_or, ov_one, ov_not, ov_ife, ov_tup, ov_lst, ov_call, ov_slice, ov_comp, resolve, Ev.plain, evOp, asgF, isFr, startF, endF, s_law_28, G3, G2, G, ex]
  have c9 : evE W12 c_law_9 ((G3 (.list (ns.map PyData.int)) o2 t P i d v wy r j).set 3 (.val x)) = .ok (.list (ML 5), (G3 (.list (ns.map PyData.int)) o2 t P i d v wy r j).set 3 (.val x)) := by
    unfold c_law_9
    refine comp_t (xs := List.range 5) (fun (k : Nat) => PyData.int (k : Int)) (fun _ => MAL) ?_ (by simp [G3, G2, G, sK0, sKs]) fun k hk => ?_
    · have hr : rngOk 0 5 = _ := rng_0 (k := 5) (by omega)
      rw [evI, e_int]
      simp only [bind_ok', hr, ofO_some]
    · have c : T.call 12 23 none [.int (k : Int), x] = _ := told_bad 6 hx.1 hx.2 k (List.mem_range.mp hk)
      simp [evSs, e_var, e_non, e_bl, e_int, e_str, e_glob, e_op, e_chain, e_and, e_or, e_one, e_not, e_ife, e_tup, e_lst, e_call, s_set, s_setO, s_setT, s_par, s_aug, s_app, s_sto, s_exp, s_ret, s_ite, s_forr, s_whl, s_raise, s_tryR, s_frz, e_slice, evPs, evO, evI, gV0, gVs, gO0, gOs, iO0, iOs, sK0, sKs, canSet_ok, canOwn_ok, inF0, inFs, asg_name, setAll_cons, setAll_nil, asg_tup, asgs_nil, asgs_cons, ov_var, ov_non, ov_bl, ov_int, ov_str, ov_glob, ov_op, ov_chain, ov_and, ov_or, ov_one, ov_not, ov_ife, ov_tup, ov_lst, ov_call, ov_slice, ov_comp, resolve, Ev.plain, evOp, asgF, isFr, startF, endF, G3, G2, G, c]
  have mu : evMul (.list [.str (Str.ofString "<malformed>")]) (.int 5) = some (.list (ML 5)) := rfl
  have eq : evEq (.list (ML 5)) (.list (ML 5)) = some true := eqL_self (by decide +kernel)
  have k29 : ∃ f, evS W12 s_law_29 ((G3 (.list (ns.map PyData.int)) o2 t P i d v wy r j).set 3 (.val x)) = .ret (.bool true) f := by
    generalize PyData.list (ML 5) = A at *
    generalize (G3 (.list (ns.map PyData.int)) o2 t P i d v wy r j).set 3 (.val x) = F at *
    exact ⟨F, by simp [evSs, e_var, e_non, e_bl, e_int, e_str, e_glob, e_op, e_chain, e_and, e_or, e_one, e_not, e_ife, e_tup, e_lst, e_call, s_set, s_setO, s_setT, s_par, s_aug, s_app, s_sto, s_exp, s_ret, s_ite, s_forr, s_whl, s_raise, s_tryR, s_frz, e_slice, evPs, evO, evI, gV0, gVs, gO0, gOs, iO0, iOs, sK0, sKs, canSet_ok, canOwn_ok, inF0, inFs, asg_name, setAll_cons, setAll_nil, asg_tup, asgs_nil, asgs_cons, ov_var, ov_non, ov_bl, ov_int, ov_str, ov_glob, ov_op, ov_chain, ov_and, ov_or, ov_one, ov_not, ov_ife, ov_tup, ov_lst, ov_call, ov_slice, ov_comp, resolve, Ev.plain, evOp, asgF, isFr, startF, endF, s_law_29, c9, oc_law_9, mu, eq]⟩
  obtain ⟨f, k29⟩ := k29
  unfold b_law
  rw [evSs, k26]
  dsimp only
  rw [evSs, e27]
  dsimp only
  rw [evSs, k28]
  dsimp only
  rw [evSs, k29]
  rfl
end K79


set_option Elab.async false
set_option linter.all false
set_option maxRecDepth 100000
set_option maxHeartbeats 0
namespace K79
open PySem L2 PyProof.Rows Ev
def top (i : Nat) : Stmt := PySem.Challenge.pw_levelhearths_k79_whole_changes_and_cross.main.body.getD i (.Pass ⟨0, 0, 0, 0⟩)
def dds : List He.DefD := [⟨("is_whole", none), "is_whole", "is_whole", defArgs (top 4), defBody (top 4), defScope (top 4), [], []⟩, ⟨("is_income", none), "is_income", "is_income", defArgs (top 8), defBody (top 8), defScope (top 8), [], []⟩, ⟨("is_panel", none), "is_panel", "is_panel", defArgs (top 10), defBody (top 10), defScope (top 10), [], []⟩, ⟨("check_panel", none), "check_panel", "check_panel", defArgs (top 11), defBody (top 11), defScope (top 11), [], []⟩, ⟨("both_lots", none), "both_lots", "both_lots", defArgs (top 12), defBody (top 12), defScope (top 12), [], []⟩, ⟨("lots_of", none), "lots_of", "lots_of", defArgs (top 13), defBody (top 13), defScope (top 13), [], []⟩, ⟨("changed", none), "changed", "changed", defArgs (top 14), defBody (top 14), defScope (top 14), [], []⟩, ⟨("change", none), "change", "change", defArgs (top 15), defBody (top 15), defScope (top 15), [], []⟩, ⟨("structured", none), "structured", "structured", defArgs (top 16), defBody (top 16), defScope (top 16), [], []⟩, ⟨("structure", none), "structure", "structure", defArgs (top 17), defBody (top 17), defScope (top 17), [], []⟩, ⟨("exchange", none), "exchange", "exchange", defArgs (top 18), defBody (top 18), defScope (top 18), [], []⟩, ⟨("crosses", none), "crosses", "crosses", defArgs (top 19), defBody (top 19), defScope (top 19), [], []⟩, ⟨("crossing", none), "crossing", "crossing", defArgs (top 20), defBody (top 20), defScope (top 20), [], []⟩, ⟨("is_crossing", none), "is_crossing", "is_crossing", defArgs (top 21), defBody (top 21), defScope (top 21), [], []⟩, ⟨("settled", none), "settled", "settled", defArgs (top 22), defBody (top 22), defScope (top 22), [], []⟩, ⟨("_law_draw", none), "_law_draw", "_law_draw", defArgs (top 24), defBody (top 24), defScope (top 24), [], []⟩, ⟨("_law_take", none), "_law_take", "_law_take", defArgs (top 25), defBody (top 25), defScope (top 25), [], []⟩, ⟨("_law_says", none), "_law_says", "_law_says", defArgs (top 26), defBody (top 26), defScope (top 26), [], []⟩, ⟨("_law_panel", none), "_law_panel", "_law_panel", defArgs (top 27), defBody (top 27), defScope (top 27), [], []⟩, ⟨("_law_odd_panel", none), "_law_odd_panel", "_law_odd_panel", defArgs (top 28), defBody (top 28), defScope (top 28), [], []⟩, ⟨("_law_orders", none), "_law_orders", "_law_orders", defArgs (top 29), defBody (top 29), defScope (top 29), [], []⟩, ⟨("_law_change", none), "_law_change", "_law_change", defArgs (top 30), defBody (top 30), defScope (top 30), [], []⟩, ⟨("_law_crosses", none), "_law_crosses", "_law_crosses", defArgs (top 31), defBody (top 31), defScope (top 31), [], []⟩, ⟨("_law_told", none), "_law_told", "_law_told", defArgs (top 32), defBody (top 32), defScope (top 32), [], []⟩, ⟨("law", none), "law", "law", defArgs (top 33), defBody (top 33), defScope (top 33), [], []⟩]
section
variable {K : PySem.W.Frag} {mg : Str → Option Value} {fuel : Nat}
theorem at_is_whole {f : Addr} {fd : FuncData} (F : FunD K "is_whole" "is_whole" (defArgs (top 4)) (defBody (top 4)) (defScope (top 4)) [] [] f fd) (h : mg (Str.ofString "is_whole") = some (.ref f)) : FnAt K mg (tab fuel) f_is_whole :=
  FnAt.of (ps := ["value"]) F h ⟨by rfl, by rfl, by rfl, by decide +kernel, by rfl, by decide +kernel, by decide +kernel⟩ (F.bindsN fun _ _ _ _ _ _ us hl => match us, hl with | [_], _ => rfl) rfl (by show trSs ((tab 0).trp f_is_whole) _ _ _ = true; decide +kernel)
theorem at_is_income {f : Addr} {fd : FuncData} (F : FunD K "is_income" "is_income" (defArgs (top 8)) (defBody (top 8)) (defScope (top 8)) [] [] f fd) (h : mg (Str.ofString "is_income") = some (.ref f)) : FnAt K mg (tab fuel) f_is_income :=
  FnAt.of (ps := ["value"]) F h ⟨by rfl, by rfl, by rfl, by decide +kernel, by rfl, by decide +kernel, by decide +kernel⟩ (F.bindsN fun _ _ _ _ _ _ us hl => match us, hl with | [_], _ => rfl) rfl (by show trSs ((tab 0).trp f_is_income) _ _ _ = true; decide +kernel)
theorem at_is_panel {f : Addr} {fd : FuncData} (F : FunD K "is_panel" "is_panel" (defArgs (top 10)) (defBody (top 10)) (defScope (top 10)) [] [] f fd) (h : mg (Str.ofString "is_panel") = some (.ref f)) : FnAt K mg (tab fuel) f_is_panel :=
  FnAt.of (ps := ["value"]) F h ⟨by rfl, by rfl, by rfl, by decide +kernel, by rfl, by decide +kernel, by decide +kernel⟩ (F.bindsN fun _ _ _ _ _ _ us hl => match us, hl with | [_], _ => rfl) rfl (by show trSs ((tab 0).trp f_is_panel) _ _ _ = true; decide +kernel)
theorem at_check_panel {f : Addr} {fd : FuncData} (F : FunD K "check_panel" "check_panel" (defArgs (top 11)) (defBody (top 11)) (defScope (top 11)) [] [] f fd) (h : mg (Str.ofString "check_panel") = some (.ref f)) : FnAt K mg (tab fuel) f_check_panel :=
  FnAt.of (ps := ["value"]) F h ⟨by rfl, by rfl, by rfl, by decide +kernel, by rfl, by decide +kernel, by decide +kernel⟩ (F.bindsN fun _ _ _ _ _ _ us hl => match us, hl with | [_], _ => rfl) rfl (by show trSs ((tab 0).trp f_check_panel) _ _ _ = true; decide +kernel)
theorem at_both_lots {f : Addr} {fd : FuncData} (F : FunD K "both_lots" "both_lots" (defArgs (top 12)) (defBody (top 12)) (defScope (top 12)) [] [] f fd) (h : mg (Str.ofString "both_lots") = some (.ref f)) : FnAt K mg (tab fuel) f_both_lots :=
  FnAt.of (ps := ["panel"]) F h ⟨by rfl, by rfl, by rfl, by decide +kernel, by rfl, by decide +kernel, by decide +kernel⟩ (F.bindsN fun _ _ _ _ _ _ us hl => match us, hl with | [_], _ => rfl) rfl (by show trSs ((tab 0).trp f_both_lots) _ _ _ = true; decide +kernel)
theorem at_lots_of {f : Addr} {fd : FuncData} (F : FunD K "lots_of" "lots_of" (defArgs (top 13)) (defBody (top 13)) (defScope (top 13)) [] [] f fd) (h : mg (Str.ofString "lots_of") = some (.ref f)) : FnAt K mg (tab fuel) f_lots_of :=
  FnAt.of (ps := ["panel"]) F h ⟨by rfl, by rfl, by rfl, by decide +kernel, by rfl, by decide +kernel, by decide +kernel⟩ (F.bindsN fun _ _ _ _ _ _ us hl => match us, hl with | [_], _ => rfl) rfl (by show trSs ((tab 0).trp f_lots_of) _ _ _ = true; decide +kernel)
theorem at_changed {f : Addr} {fd : FuncData} (F : FunD K "changed" "changed" (defArgs (top 14)) (defBody (top 14)) (defScope (top 14)) [] [] f fd) (h : mg (Str.ofString "changed") = some (.ref f)) : FnAt K mg (tab fuel) f_changed :=
  FnAt.of (ps := ["panel"]) F h ⟨by rfl, by rfl, by rfl, by decide +kernel, by rfl, by decide +kernel, by decide +kernel⟩ (F.bindsN fun _ _ _ _ _ _ us hl => match us, hl with | [_], _ => rfl) rfl (by show trSs ((tab 0).trp f_changed) _ _ _ = true; decide +kernel)
theorem at_change {f : Addr} {fd : FuncData} (F : FunD K "change" "change" (defArgs (top 15)) (defBody (top 15)) (defScope (top 15)) [] [] f fd) (h : mg (Str.ofString "change") = some (.ref f)) : FnAt K mg (tab fuel) f_change :=
  FnAt.of (ps := ["panel"]) F h ⟨by rfl, by rfl, by rfl, by decide +kernel, by rfl, by decide +kernel, by decide +kernel⟩ (F.bindsN fun _ _ _ _ _ _ us hl => match us, hl with | [_], _ => rfl) rfl (by show trSs ((tab 0).trp f_change) _ _ _ = true; decide +kernel)
theorem at_structured {f : Addr} {fd : FuncData} (F : FunD K "structured" "structured" (defArgs (top 16)) (defBody (top 16)) (defScope (top 16)) [] [] f fd) (h : mg (Str.ofString "structured") = some (.ref f)) : FnAt K mg (tab fuel) f_structured :=
  FnAt.of (ps := ["panel"]) F h ⟨by rfl, by rfl, by rfl, by decide +kernel, by rfl, by decide +kernel, by decide +kernel⟩ (F.bindsN fun _ _ _ _ _ _ us hl => match us, hl with | [_], _ => rfl) rfl (by show trSs ((tab 0).trp f_structured) _ _ _ = true; decide +kernel)
theorem at_structure {f : Addr} {fd : FuncData} (F : FunD K "structure" "structure" (defArgs (top 17)) (defBody (top 17)) (defScope (top 17)) [] [] f fd) (h : mg (Str.ofString "structure") = some (.ref f)) : FnAt K mg (tab fuel) f_structure :=
  FnAt.of (ps := ["panel"]) F h ⟨by rfl, by rfl, by rfl, by decide +kernel, by rfl, by decide +kernel, by decide +kernel⟩ (F.bindsN fun _ _ _ _ _ _ us hl => match us, hl with | [_], _ => rfl) rfl (by show trSs ((tab 0).trp f_structure) _ _ _ = true; decide +kernel)
theorem at_exchange {f : Addr} {fd : FuncData} (F : FunD K "exchange" "exchange" (defArgs (top 18)) (defBody (top 18)) (defScope (top 18)) [] [] f fd) (h : mg (Str.ofString "exchange") = some (.ref f)) : FnAt K mg (tab fuel) f_exchange :=
  FnAt.of (ps := ["panel"]) F h ⟨by rfl, by rfl, by rfl, by decide +kernel, by rfl, by decide +kernel, by decide +kernel⟩ (F.bindsN fun _ _ _ _ _ _ us hl => match us, hl with | [_], _ => rfl) rfl (by show trSs ((tab 0).trp f_exchange) _ _ _ = true; decide +kernel)
theorem at_crosses {f : Addr} {fd : FuncData} (F : FunD K "crosses" "crosses" (defArgs (top 19)) (defBody (top 19)) (defScope (top 19)) [] [] f fd) (h : mg (Str.ofString "crosses") = some (.ref f)) : FnAt K mg (tab fuel) f_crosses :=
  FnAt.of (ps := ["panel", "i", "j"]) F h ⟨by rfl, by rfl, by rfl, by decide +kernel, by rfl, by decide +kernel, by decide +kernel⟩ (F.bindsN fun _ _ _ _ _ _ us hl => match us, hl with | [_, _, _], _ => rfl) rfl (by show trSs ((tab 0).trp f_crosses) _ _ _ = true; decide +kernel)
theorem at_crossing {f : Addr} {fd : FuncData} (F : FunD K "crossing" "crossing" (defArgs (top 20)) (defBody (top 20)) (defScope (top 20)) [] [] f fd) (h : mg (Str.ofString "crossing") = some (.ref f)) : FnAt K mg (tab fuel) f_crossing :=
  FnAt.of (ps := ["panel"]) F h ⟨by rfl, by rfl, by rfl, by decide +kernel, by rfl, by decide +kernel, by decide +kernel⟩ (F.bindsN fun _ _ _ _ _ _ us hl => match us, hl with | [_], _ => rfl) rfl (by show trSs ((tab 0).trp f_crossing) _ _ _ = true; decide +kernel)
theorem at_is_crossing {f : Addr} {fd : FuncData} (F : FunD K "is_crossing" "is_crossing" (defArgs (top 21)) (defBody (top 21)) (defScope (top 21)) [] [] f fd) (h : mg (Str.ofString "is_crossing") = some (.ref f)) : FnAt K mg (tab fuel) f_is_crossing :=
  FnAt.of (ps := ["panel", "value"]) F h ⟨by rfl, by rfl, by rfl, by decide +kernel, by rfl, by decide +kernel, by decide +kernel⟩ (F.bindsN fun _ _ _ _ _ _ us hl => match us, hl with | [_, _], _ => rfl) rfl (by show trSs ((tab 0).trp f_is_crossing) _ _ _ = true; decide +kernel)
theorem at_settled {f : Addr} {fd : FuncData} (F : FunD K "settled" "settled" (defArgs (top 22)) (defBody (top 22)) (defScope (top 22)) [] [] f fd) (h : mg (Str.ofString "settled") = some (.ref f)) : FnAt K mg (tab fuel) f_settled :=
  FnAt.of (ps := ["panel"]) F h ⟨by rfl, by rfl, by rfl, by decide +kernel, by rfl, by decide +kernel, by decide +kernel⟩ (F.bindsN fun _ _ _ _ _ _ us hl => match us, hl with | [_], _ => rfl) rfl (by show trSs ((tab 0).trp f_settled) _ _ _ = true; decide +kernel)
theorem at__law_draw {f : Addr} {fd : FuncData} (F : FunD K "_law_draw" "_law_draw" (defArgs (top 24)) (defBody (top 24)) (defScope (top 24)) [] [] f fd) (h : mg (Str.ofString "_law_draw") = some (.ref f)) : FnAt K mg (tab fuel) f__law_draw :=
  FnAt.of (ps := ["script"]) F h ⟨by rfl, by rfl, by rfl, by decide +kernel, by rfl, by decide +kernel, by decide +kernel⟩ (F.bindsN fun _ _ _ _ _ _ us hl => match us, hl with | [_], _ => rfl) rfl (by show trSs ((tab 0).trp f__law_draw) _ _ _ = true; decide +kernel)
theorem at__law_take {f : Addr} {fd : FuncData} (F : FunD K "_law_take" "_law_take" (defArgs (top 25)) (defBody (top 25)) (defScope (top 25)) [] [] f fd) (h : mg (Str.ofString "_law_take") = some (.ref f)) : FnAt K mg (tab fuel) f__law_take :=
  FnAt.of (ps := ["draw", "many"]) F h ⟨by rfl, by rfl, by rfl, by decide +kernel, by rfl, by decide +kernel, by decide +kernel⟩ (F.bindsN fun _ _ _ _ _ _ us hl => match us, hl with | [_, _], _ => rfl) rfl (by show trSs ((tab 0).trp f__law_take) _ _ _ = true; decide +kernel)
theorem at__law_says {f : Addr} {fd : FuncData} (F : FunD K "_law_says" "_law_says" (defArgs (top 26)) (defBody (top 26)) (defScope (top 26)) [] [] f fd) (h : mg (Str.ofString "_law_says") = some (.ref f)) : FnAt K mg (tab fuel) f__law_says :=
  FnAt.of (ps := ["value", "due"]) F h ⟨by rfl, by rfl, by rfl, by decide +kernel, by rfl, by decide +kernel, by decide +kernel⟩ (F.bindsN fun _ _ _ _ _ _ us hl => match us, hl with | [_, _], _ => rfl) rfl (by show trSs ((tab 0).trp f__law_says) _ _ _ = true; decide +kernel)
theorem at__law_panel {f : Addr} {fd : FuncData} (F : FunD K "_law_panel" "_law_panel" (defArgs (top 27)) (defBody (top 27)) (defScope (top 27)) [] [] f fd) (h : mg (Str.ofString "_law_panel") = some (.ref f)) : FnAt K mg (tab fuel) f__law_panel :=
  FnAt.of (ps := ["draw", "people"]) F h ⟨by rfl, by rfl, by rfl, by decide +kernel, by rfl, by decide +kernel, by decide +kernel⟩ (F.bindsN fun _ _ _ _ _ _ us hl => match us, hl with | [_, _], _ => rfl) rfl (by show trSs ((tab 0).trp f__law_panel) _ _ _ = true; decide +kernel)
theorem at__law_odd_panel {f : Addr} {fd : FuncData} (F : FunD K "_law_odd_panel" "_law_odd_panel" (defArgs (top 28)) (defBody (top 28)) (defScope (top 28)) [] [] f fd) (h : mg (Str.ofString "_law_odd_panel") = some (.ref f)) : FnAt K mg (tab fuel) f__law_odd_panel :=
  FnAt.of (ps := ["draw", "panel"]) F h ⟨by rfl, by rfl, by rfl, by decide +kernel, by rfl, by decide +kernel, by decide +kernel⟩ (F.bindsN fun _ _ _ _ _ _ us hl => match us, hl with | [_, _], _ => rfl) rfl (by show trSs ((tab 0).trp f__law_odd_panel) _ _ _ = true; decide +kernel)
theorem at__law_orders {f : Addr} {fd : FuncData} (F : FunD K "_law_orders" "_law_orders" (defArgs (top 29)) (defBody (top 29)) (defScope (top 29)) [] [] f fd) (h : mg (Str.ofString "_law_orders") = some (.ref f)) : FnAt K mg (tab fuel) f__law_orders :=
  FnAt.of (ps := ["many"]) F h ⟨by rfl, by rfl, by rfl, by decide +kernel, by rfl, by decide +kernel, by decide +kernel⟩ (F.bindsN fun _ _ _ _ _ _ us hl => match us, hl with | [_], _ => rfl) rfl (by show trSs ((tab 0).trp f__law_orders) _ _ _ = true; decide +kernel)
theorem at__law_change {f : Addr} {fd : FuncData} (F : FunD K "_law_change" "_law_change" (defArgs (top 30)) (defBody (top 30)) (defScope (top 30)) [] [] f fd) (h : mg (Str.ofString "_law_change") = some (.ref f)) : FnAt K mg (tab fuel) f__law_change :=
  FnAt.of (ps := ["panel"]) F h ⟨by rfl, by rfl, by rfl, by decide +kernel, by rfl, by decide +kernel, by decide +kernel⟩ (F.bindsN fun _ _ _ _ _ _ us hl => match us, hl with | [_], _ => rfl) rfl (by show trSs ((tab 0).trp f__law_change) _ _ _ = true; decide +kernel)
theorem at__law_crosses {f : Addr} {fd : FuncData} (F : FunD K "_law_crosses" "_law_crosses" (defArgs (top 31)) (defBody (top 31)) (defScope (top 31)) [] [] f fd) (h : mg (Str.ofString "_law_crosses") = some (.ref f)) : FnAt K mg (tab fuel) f__law_crosses :=
  FnAt.of (ps := ["panel", "value"]) F h ⟨by rfl, by rfl, by rfl, by decide +kernel, by rfl, by decide +kernel, by decide +kernel⟩ (F.bindsN fun _ _ _ _ _ _ us hl => match us, hl with | [_, _], _ => rfl) rfl (by show trSs ((tab 0).trp f__law_crosses) _ _ _ = true; decide +kernel)
theorem at__law_told {f : Addr} {fd : FuncData} (F : FunD K "_law_told" "_law_told" (defArgs (top 32)) (defBody (top 32)) (defScope (top 32)) [] [] f fd) (h : mg (Str.ofString "_law_told") = some (.ref f)) : FnAt K mg (tab fuel) f__law_told :=
  FnAt.of (ps := ["which", "panel"]) F h ⟨by rfl, by rfl, by rfl, by decide +kernel, by rfl, by decide +kernel, by decide +kernel⟩ (F.bindsN fun _ _ _ _ _ _ us hl => match us, hl with | [_, _], _ => rfl) rfl (by show trSs ((tab 0).trp f__law_told) _ _ _ = true; decide +kernel)
theorem at_law {f : Addr} {fd : FuncData} (F : FunD K "law" "law" (defArgs (top 33)) (defBody (top 33)) (defScope (top 33)) [] [] f fd) (h : mg (Str.ofString "law") = some (.ref f)) : FnAt K mg (tab fuel) f_law :=
  FnAt.of (ps := ["script"]) F h ⟨by rfl, by rfl, by rfl, by decide +kernel, by rfl, by decide +kernel, by decide +kernel⟩ (F.bindsN fun _ _ _ _ _ _ us hl => match us, hl with | [_], _ => rfl) rfl (by show trSs ((tab 0).trp f_law) _ _ _ = true; decide +kernel)
theorem ats (c : He.SaysD (faOf (tab fuel)) dds K) : ∀ (g : Nat) fn, (tab fuel).fns[g]? = some fn → mg (Str.ofString fn.name) = some (.ref (He.ga K (Str.ofString fn.name))) → FnAt K mg (tab fuel) fn
  | 0, _, e, hm => by cases e; obtain ⟨fd, F⟩ := c.def_ 0 rfl; exact at_is_whole F hm
  | 1, _, e, hm => by cases e; obtain ⟨fd, F⟩ := c.def_ 1 rfl; exact at_is_income F hm
  | 2, _, e, hm => by cases e; obtain ⟨fd, F⟩ := c.def_ 2 rfl; exact at_is_panel F hm
  | 3, _, e, hm => by cases e; obtain ⟨fd, F⟩ := c.def_ 3 rfl; exact at_check_panel F hm
  | 4, _, e, hm => by cases e; obtain ⟨fd, F⟩ := c.def_ 4 rfl; exact at_both_lots F hm
  | 5, _, e, hm => by cases e; obtain ⟨fd, F⟩ := c.def_ 5 rfl; exact at_lots_of F hm
  | 6, _, e, hm => by cases e; obtain ⟨fd, F⟩ := c.def_ 6 rfl; exact at_changed F hm
  | 7, _, e, hm => by cases e; obtain ⟨fd, F⟩ := c.def_ 7 rfl; exact at_change F hm
  | 8, _, e, hm => by cases e; obtain ⟨fd, F⟩ := c.def_ 8 rfl; exact at_structured F hm
  | 9, _, e, hm => by cases e; obtain ⟨fd, F⟩ := c.def_ 9 rfl; exact at_structure F hm
  | 10, _, e, hm => by cases e; obtain ⟨fd, F⟩ := c.def_ 10 rfl; exact at_exchange F hm
  | 11, _, e, hm => by cases e; obtain ⟨fd, F⟩ := c.def_ 11 rfl; exact at_crosses F hm
  | 12, _, e, hm => by cases e; obtain ⟨fd, F⟩ := c.def_ 12 rfl; exact at_crossing F hm
  | 13, _, e, hm => by cases e; obtain ⟨fd, F⟩ := c.def_ 13 rfl; exact at_is_crossing F hm
  | 14, _, e, hm => by cases e; obtain ⟨fd, F⟩ := c.def_ 14 rfl; exact at_settled F hm
  | 15, _, e, hm => by cases e; obtain ⟨fd, F⟩ := c.def_ 15 rfl; exact at__law_draw F hm
  | 16, _, e, hm => by cases e; obtain ⟨fd, F⟩ := c.def_ 16 rfl; exact at__law_take F hm
  | 17, _, e, hm => by cases e; obtain ⟨fd, F⟩ := c.def_ 17 rfl; exact at__law_says F hm
  | 18, _, e, hm => by cases e; obtain ⟨fd, F⟩ := c.def_ 18 rfl; exact at__law_panel F hm
  | 19, _, e, hm => by cases e; obtain ⟨fd, F⟩ := c.def_ 19 rfl; exact at__law_odd_panel F hm
  | 20, _, e, hm => by cases e; obtain ⟨fd, F⟩ := c.def_ 20 rfl; exact at__law_orders F hm
  | 21, _, e, hm => by cases e; obtain ⟨fd, F⟩ := c.def_ 21 rfl; exact at__law_change F hm
  | 22, _, e, hm => by cases e; obtain ⟨fd, F⟩ := c.def_ 22 rfl; exact at__law_crosses F hm
  | 23, _, e, hm => by cases e; obtain ⟨fd, F⟩ := c.def_ 23 rfl; exact at__law_told F hm
  | 24, _, e, hm => by cases e; obtain ⟨fd, F⟩ := c.def_ 24 rfl; exact at_law F hm
  | n + 25, _, e, _ => by cases e
end
-- order: 0:is_whole 1:is_income 2:is_panel 3:check_panel 4:both_lots 5:lots_of 6:changed 7:change 8:structured 9:structure 10:exchange 11:crosses 12:crossing 13:is_crossing 14:settled 15:_law_draw 16:_law_take 17:_law_says 18:_law_panel 19:_law_odd_panel 20:_law_orders 21:_law_change 22:_law_crosses 23:_law_told 24:law
abbrev R : PySem.W.OpenRow := PySem.W.OpenLaw.row PySem.Challenge.rw_levelhearths_k79_whole_changes_and_cross
abbrev hk (fuel : Nat) : PySem.W.Hook := He.hookX 5 (faOf (tab fuel)) dds [] [] (globB globs)
def ob (fuel : Nat) (s : PySem.W.SharedT) : He.AlX := He.obsX 5 (faOf (tab fuel)) dds [] [] (globB globs) (HandSHeadRun.getT s)
theorem ob_eq (fuel : Nat) (s : PySem.W.SharedT) : ob fuel s = (hk fuel).obs s.abs := He.obsX_eq (HandSHeadRun.getT_eq s)

def loose : List PySem.Str := [PySem.Str.ofString "Fault", PySem.Str.ofString "Malformed", PySem.Str.ofString "is_whole", PySem.Str.ofString "MOST_PEOPLE", PySem.Str.ofString "MOST_INCOME", PySem.Str.ofString "is_income", PySem.Str.ofString "is_panel", PySem.Str.ofString "check_panel", PySem.Str.ofString "both_lots", PySem.Str.ofString "lots_of", PySem.Str.ofString "changed", PySem.Str.ofString "change", PySem.Str.ofString "structured", PySem.Str.ofString "structure", PySem.Str.ofString "exchange", PySem.Str.ofString "crosses", PySem.Str.ofString "crossing", PySem.Str.ofString "is_crossing", PySem.Str.ofString "settled", PySem.Str.ofString "_law_draw", PySem.Str.ofString "_law_take", PySem.Str.ofString "_law_says", PySem.Str.ofString "_law_panel", PySem.Str.ofString "_law_odd_panel", PySem.Str.ofString "_law_orders", PySem.Str.ofString "_law_change", PySem.Str.ofString "_law_crosses", PySem.Str.ofString "_law_told"]
theorem run (w : World) : HandSHeadRun.RunEq R (PySem.W.view R.prog [33]) (hk fu) (ob fu) 4000 loose w := by
  intro os
  kernel_rfl
end K79
open PySem PySem.W PySem.Calls PyProof.Rows
theorem PySem.Challenge.cw_levelhearths_k79_whole_changes_and_cross_holds : PySem.Challenge.rw_levelhearths_k79_whole_changes_and_cross.Holds := by
  w_on; o_law
  refine HandSHeadRun.head_any (r := OpenLaw.row PySem.Challenge.rw_levelhearths_k79_whole_changes_and_cross) (q := view (OpenLaw.row PySem.Challenge.rw_levelhearths_k79_whole_changes_and_cross).prog [33]) (H := K79.hk K79.fu) (ob := K79.ob K79.fu) (M := 4000) (loose := K79.loose) (d := HandSHeadRun.topDef (OpenLaw.row PySem.Challenge.rw_levelhearths_k79_whole_changes_and_cross).prog 33) (kwd := []) (K79.ob_eq K79.fu)
    (by kernel_rfl) (fun s => by kernel_rfl) K79.run (by kernel_rfl) (by kernel_rfl) (by kernel_rfl) (by rfl) (by first | assumption | decide +kernel) (by decide +kernel) ⟨rfl, rfl, rfl, rfl, rfl, by decide +kernel⟩ ?hw ?hc
  case hw => w_witness2
  case hc =>
    exact Ev.law_end (T := K79.tab K79.fu) (globs := K79.globs) (fnl := K79.dds) (fn := K79.f_law) (gl := 24) (dep := 12) (n := 5) rfl (by kernel_rfl) ⟨rfl, by decide, by decide⟩ rfl rfl rfl (by kernel_rfl) rfl (fun K mg c => K79.ats c) K79.evals


