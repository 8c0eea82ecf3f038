import PyProof.Rows.All
import Wide.All
import OpenK.AllK
import Wide.FinOn
import HandS.ForMost
import HandS.Wide
import HandS.Flow
import HandS.Zip
import HandS.Conv
import HandS.Walk
import HandS.IsInst
import HandS.TupMul
import HandS.TupAny
import HandS.TupLe
import HandS.Defaults
import HandS.Rev
import KE.SortData
import KE.DataMinMax
import KE.DataFind
import KE.DataEq
import KE.KTupSum
import KE.Datum
import KE.DatumOrd
import HandS.SetFor
import KE.DataCmp
import PyProof.SeqIndex
import KE.GoesMore
import KE.GoesEnum
import HandS.Words
import HandS.HeadHook2
import PySem.Challenge.RW_turnwright_k59_clubs_ended_at_each_round
import KE.KStateDown
import HandS.Head0
import HandS.Head1
import HandS.Head2
import HandS.HeadEnd
import HandS.HeadHook1
set_option Elab.async false
set_option linter.all false
set_option maxRecDepth 100000
/-! Values and the plain meaning of the program's constructs: no heap, no machine. -/
namespace Ev
open PySem

/-- shared data: never changed -/
inductive D where
  | non | bl (b : Bool) | int (i : Int) | str (s : Str)
  | tup (xs : List D) | lst (xs : List D)
  | obj (c : Str) (ns : List Str) (xs : List D)
  | frl (xs : List D)          -- a list from outside, that is but read
/-- a tree of containers that belong to one slot alone; its leaves are shared data -/
inductive M where
  | d (x : D)
  | lst (xs : List M)
  | obj (c : Str) (ns : List Str) (xs : List M)

mutual
def M.fz : M → D
  | .d x => x
  | .lst xs => .lst (M.fzs xs)
  | .obj c ns xs => .obj c ns (M.fzs xs)
def M.fzs : List M → List D
  | [] => []
  | x :: r => M.fz x :: M.fzs r
end
theorem M.fzs_map : ∀ xs : List M, M.fzs xs = xs.map M.fz
  | [] => by simp [M.fzs]
  | x :: r => by simp [M.fzs, M.fzs_map r]
theorem M.fzs_d (xs : List D) : M.fzs (xs.map M.d) = xs := by
  rw [M.fzs_map, List.map_map]
  have : (M.fz ∘ M.d) = id := by funext x; simp [M.fz]
  rw [this, List.map_id]

def M.kids : M → List M
  | .d _ => []
  | .lst xs => xs
  | .obj _ _ xs => xs
def M.wk : M → List M → M
  | .d x, _ => .d x
  | .lst _, ys => .lst ys
  | .obj c ns _, ys => .obj c ns ys
def M.sub : M → List Nat → Option M
  | m, [] => some m
  | m, i :: p => match m.kids[i]? with | some x => M.sub x p | none => none
def M.put : M → List Nat → M → M
  | _, [], s => s
  | m, i :: p, s => match m.kids[i]? with | some x => m.wk (m.kids.set i (M.put x p s)) | none => m

abbrev Env := List (Option M)
def Env.slot (e : Env) (i : Nat) : Option M := match e[i]? with | some (some m) => some m | _ => none
def Env.at (e : Env) (i : Nat) (p : List Nat) : Option M := match e.slot i with | some m => m.sub p | none => none
def Env.putAt (e : Env) (i : Nat) (p : List Nat) (s : M) : Env := match e.slot i with | some m => e.set i (some (m.put p s)) | none => e

/-- a looked-at thing: shared data, or a container that a slot owns -/
inductive PV where
  | val (x : D) | at (i : Nat) (p : List Nat)
abbrev SK := Env → Option PV
abbrev SP := Env → Option D
abbrev SE := Env → Option (M × Env)
abbrev ST := Env → Option (Bool × Env)
abbrev SI := Env → Option (List D × Env)

def fIx (ns : List Str) (f : Str) : Option Nat := ns.findIdx? (fun g => g == f)
/-- the items of data that is a list or a tuple -/
def D.items : D → Option (List D)
  | .tup xs => some xs
  | .lst xs => some xs
  | .frl xs => some xs
  | _ => none
def M.items : M → Option (List M)
  | .d (.tup xs) => some (xs.map .d)
  | .d (.lst xs) => some (xs.map .d)
  | .lst xs => some xs
  | _ => none

/-! ### looking -/
def kVar (i : Nat) : SK := fun e => match e.slot i with
  | some (.d x) => some (.val x)
  | some _ => some (.at i [])
  | none => none
/-- the child at j of what is looked at -/
def kKid (e : Env) (i : Nat) (p : List Nat) (j : Nat) : Option PV := match e.at i (p ++ [j]) with
  | some (.d x) => some (.val x)
  | some _ => some (.at i (p ++ [j]))
  | none => none
def kFld (k : SK) (f : Str) : SK := fun e => match k e with
  | some (.val (.obj _ ns xs)) => match fIx ns f with
    | some j => match xs[j]? with | some x => some (.val x) | none => none
    | none => none
  | some (.at i p) => match e.at i p with
    | some (.obj _ ns _) => match fIx ns f with | some j => kKid e i p j | none => none
    | _ => none
  | _ => none
def D.ix (x : D) (i : Int) : Option D := match x with
  | .tup xs => L2.atI xs i
  | .lst xs => L2.atI xs i
  | .frl xs => L2.atI xs i
  | _ => none
def kIdx (k : SK) (q : SP) : SK := fun e => match k e with
  | some (.val x) => match q e with
    | some (.int i) => match x.ix i with | some y => some (.val y) | none => none
    | _ => none
  | some (.at i p) => match e.at i p with
    | some (.lst ms) => match q e with
      | some (.int n) => match L2.ixN ms.length n with | some j => kKid e i p j | none => none
      | _ => none
    | _ => none
  | none => none
/-- the data that is looked at, as it stands: a container of shared data may be read without being given away -/
def allD : List M → Option (List D)
  | [] => some []
  | .d x :: r => match allD r with | some xs => some (x :: xs) | none => none
  | _ :: _ => none
def PV.read (e : Env) : PV → Option D
  | .val x => some x
  | .at i p => match e.at i p with
    | some (.lst ms) => match allD ms with | some xs => some (.lst xs) | none => none
    | _ => none

/-! ### pure expressions -/
def pOf (k : SK) : SP := fun e => match k e with | some (.val x) => some x | _ => none
def pC (x : D) : SP := fun _ => some x
/-- what may be multiplied -/
def MulOk (a b : Int) : Prop := a.natAbs < 2 ^ 64 ∨ b.natAbs < 2 ^ 64 ∨ (a.natAbs < 2 ^ 400000 ∧ b.natAbs < 2 ^ 400000)
def DivOk (_a b : Int) : Prop := 0 < b ∧ b.natAbs < 2 ^ 9000
def PowOk (a b : Int) : Prop := 0 ≤ b ∧ b ≤ 1000000 ∧ a.natAbs < 2 ^ 64
instance (a b : Int) : Decidable (MulOk a b) := by unfold MulOk; infer_instance
instance (a b : Int) : Decidable (DivOk a b) := by unfold DivOk; infer_instance
instance (a b : Int) : Decidable (PowOk a b) := by unfold PowOk; infer_instance
def binI : Operator → Int → Int → Option Int
  | .Add, a, b => some (a + b)
  | .Sub, a, b => some (a - b)
  | .Mult, a, b => if MulOk a b then some (a * b) else none
  | .FloorDiv, a, b => if DivOk a b then some (a / b) else none
  | .Mod, a, b => if 0 < b then some (a % b) else none
  | .Pow, a, b => if PowOk a b then some (a ^ b.toNat) else none
  | .LShift, a, b => if PowOk a b then some (a * 2 ^ b.toNat) else none
  | .RShift, a, b => if 0 ≤ b then some (a / 2 ^ b.toNat) else none
  | .BitAnd, a, b => some (Builtin.bitAnd a b)
  | .BitOr, a, b => some (Builtin.bitOr a b)
  | .BitXor, a, b => some (Builtin.bitXor a b)
  | _, _, _ => none
def pBin (op : Operator) (a b : SP) : SP := fun e => match a e with
  | some (.int x) => match b e with
    | some (.int y) => match binI op x y with | some z => some (.int z) | none => none
    | _ => none
  | _ => none
def pNeg (a : SP) : SP := fun e => match a e with | some (.int x) => some (.int (-x)) | _ => none
def D.len : D → Option Int
  | .tup xs => some xs.length
  | .lst xs => some xs.length
  | .frl xs => some xs.length
  | _ => none
def PV.len (e : Env) : PV → Option Int
  | .val x => x.len
  | .at i p => match e.at i p with
    | some (.lst ms) => some ms.length
    | _ => none
def pLen (k : SK) : SP := fun e => match k e with
  | some v => match v.len e with | some n => some (.int n) | none => none
  | none => none

/-! ### data compared -/
mutual
def D.py : D → Option PyData
  | .non => some .none
  | .bl b => some (.bool b)
  | .int i => some (.int i)
  | .str s => some (.str s)
  | .tup xs => match D.pys xs with | some ys => some (.tuple ys) | none => none
  | .lst xs => match D.pys xs with | some ys => some (.list ys) | none => none
  | .obj _ _ _ => none
  | .frl _ => none
def D.pys : List D → Option (List PyData)
  | [] => some []
  | x :: r => match D.py x with
    | some y => match D.pys r with | some ys => some (y :: ys) | none => none
    | none => none
end
mutual
/-- data back from what it is compared as -/
def ofPy : PyData → D
  | .none => .non
  | .bool b => .bl b
  | .int i => .int i
  | .str s => .str s
  | .tuple xs => .tup (ofPys xs)
  | .list xs => .lst (ofPys xs)
  | .dict _ => .non
def ofPys : List PyData → List D
  | [] => []
  | x :: r => ofPy x :: ofPys r
end
/-- may be compared by == -/
def okD (x : PyData) : Bool := x.plain && decide (x.depth ≤ 32)
def eqD (x y : D) : Option Bool := match x.py, y.py with
  | some a, some b => if okD a && okD b then some (PyData.eqv a b) else none
  | _, _ => none
/-- may be compared by < -/
def okLt (x y : PyData) : Bool := okD x && okD y && W.alike x y && (match x with | .none => false | _ => true)
def ltD (f : PyData → PyData → Bool) (x y : D) : Option Bool := match x.py, y.py with
  | some a, some b => if okLt a b then some (f a b) else none
  | _, _ => none
def cmpD : CmpOp → D → D → Option Bool
  | .Eq, x, y => eqD x y
  | .NotEq, x, y => match eqD x y with | some b => some (!b) | none => none
  | .Lt, x, y => match x, y with | .int a, .int b => some (decide (a < b)) | x, y => ltD (W.dataLt) x y
  | .LtE, x, y => match x, y with | .int a, .int b => some (decide (a ≤ b)) | x, y => ltD (fun a b => !W.dataLt b a) x y
  | .Gt, x, y => match x, y with | .int a, .int b => some (decide (b < a)) | x, y => ltD (fun a b => W.dataLt b a) x y
  | .GtE, x, y => match x, y with | .int a, .int b => some (decide (b ≤ a)) | x, y => ltD (fun a b => !W.dataLt a b) x y
  | .Is, x, y => match y with | .non => some (match x with | .non => true | _ => false) | _ => none
  | .IsNot, x, y => match y with | .non => some (match x with | .non => false | _ => true) | _ => none
  | _, _, _ => none
/-- an item and a sequence that may be compared with it -/
def cmpAll (x : D) (ys : List D) : Option (PyData × List PyData) := match x.py, D.pys ys with
  | some p, some ps => if okD p && ps.all okD then some (p, ps) else none
  | _, _ => none
/-- x in xs -/
def inD (x : D) (ys : List D) : Option Bool := match cmpAll x ys with
  | some (p, ps) => some (ps.any fun q => PyData.eqv q p)
  | none => none
/-- the place of the first that is equal -/
def idxD (y : D) (xs : List D) : Option Nat := match cmpAll y xs with
  | some (p, ps) => ps.findIdx? fun q => PyData.eqv q p
  | none => none
def cntD (y : D) (xs : List D) : Option Nat := match cmpAll y xs with
  | some (p, ps) => some (ps.countP fun q => PyData.eqv q p)
  | none => none

/-! ### statements -/
inductive R where
  | nx (e : Env) | rt (m : M) (e : Env) | bk (e : Env) | ct (e : Env)
abbrev SS := Env → Option R
end Ev
set_option Elab.async false
set_option linter.all false
set_option maxRecDepth 100000
/-! The meaning of expressions and statements, as functions of the slots. -/
namespace Ev
open PySem

/-! ### values -/
def cP (q : SP) : SE := fun e => match q e with | some x => some (.d x, e) | none => none
/-- a container that is handed on is from then on shared -/
def cK (k : SK) : SE := fun e => match k e with
  | some (.val x) => some (.d x, e)
  | some (.at i p) => match e.at i p with
    | some m => some (.d m.fz, e.putAt i p (.d m.fz))
    | none => none
  | none => none
def line : Nat := 16777216
def binV (op : Operator) (x y : D) : Option M := match x, y with
  | .int a, .int b => match binI op a b with | some c => some (.d (.int c)) | none => none
  | .lst a, .lst b => match op with
    | .Add => if a.length + b.length ≤ line then some (.lst ((a ++ b).map .d)) else none
    | _ => none
  | .tup a, .tup b => match op with
    | .Add => if a.length + b.length ≤ line then some (.d (.tup (a ++ b))) else none
    | _ => none
  | .lst a, .int n => match op with
    | .Mult => if n.natAbs ≤ line ∧ a.length * n.toNat ≤ line then some (.lst ((List.replicate n.toNat a).flatten.map .d)) else none
    | _ => none
  | .tup a, .int n => match op with
    | .Mult => if a ≠ [] ∧ 2 ≤ n ∧ n ≤ 1000 ∧ a.length ≤ 1000 then some (.d (.tup (List.replicate n.toNat a).flatten)) else none
    | _ => none
  | _, _ => none
def cBin (op : Operator) (a b : SE) : SE := fun e => match a e with
  | some (x, e1) => match b e1 with
    | some (y, e2) => match binV op x.fz y.fz with | some z => some (z, e2) | none => none
    | none => none
  | none => none
def cNeg (a : SE) : SE := fun e => match a e with
  | some (.d (.int x), e1) => some (.d (.int (-x)), e1)
  | _ => none
def cCmp (op : CmpOp) (a b : SE) : SE := fun e => match a e with
  | some (x, e1) => match b e1 with
    | some (y, e2) => match cmpD op x.fz y.fz with | some z => some (.d (.bl z), e2) | none => none
    | none => none
  | none => none
/-- x in c, x not in c -/
def cIn (neg : Bool) (a b : SE) : SE := fun e => match a e with
  | some (x, e1) => match b e1 with
    | some (y, e2) => match y.fz.items with
      | some ys => match inD x.fz ys with | some z => some (.d (.bl (if neg then !z else z)), e2) | none => none
      | none => none
    | none => none
  | none => none
/-- .. where the container is but looked at, and x is pure -/
def cInK (neg : Bool) (a : SP) (k : SK) : SE := fun e => match a e with
  | some x => match k e with
    | some v => match v.read e with
      | some y => match y.items with
        | some ys => match inD x ys with | some z => some (.d (.bl (if neg then !z else z)), e) | none => none
        | none => none
      | none => none
    | none => none
  | none => none
def cAnd (a b : SE) : SE := fun e => match a e with
  | some (.d (.bl x), e1) => if x then b e1 else some (.d (.bl false), e1)
  | _ => none
def cOr (a b : SE) : SE := fun e => match a e with
  | some (.d (.bl x), e1) => if x then some (.d (.bl true), e1) else b e1
  | _ => none
def cNot (a : SE) : SE := fun e => match a e with
  | some (.d (.bl x), e1) => some (.d (.bl (!x)), e1)
  | _ => none
def cIf (t : ST) (a b : SE) : SE := fun e => match t e with
  | some (x, e1) => if x then a e1 else b e1
  | none => none
def evL : List SE → Env → Option (List M × Env)
  | [], e => some ([], e)
  | c :: r, e => match c e with
    | some (m, e1) => match evL r e1 with | some (ms, e2) => some (m :: ms, e2) | none => none
    | none => none
def cTup (cs : List SE) : SE := fun e => match evL cs e with
  | some (ms, e1) => if ms.length ≤ line then some (.d (.tup (M.fzs ms)), e1) else none
  | none => none
def cLst (cs : List SE) : SE := fun e => match evL cs e with
  | some (ms, e1) => if ms.length ≤ line then some (.lst ms, e1) else none
  | none => none
def cIx (a b : SE) : SE := fun e => match a e with
  | some (x, e1) => match b e1 with
    | some (.d (.int i), e2) => match x.fz.ix i with | some y => some (.d y, e2) | none => none
    | _ => none
  | none => none
/-- name[b] where the name's container is but looked at -/
def cIxV (i : Nat) (b : SE) : SE := fun e => match e.slot i with
  | none => none
  | some _ => match b e with
    | some (.d (.int n), e1) => match e1.slot i with
      | some (.d x) => match x.ix n with | some y => some (.d y, e1) | none => none
      | some (.lst ms) => match L2.atI ms n with | some (.d y) => some (.d y, e1) | _ => none
      | _ => none
    | _ => none
/-- x[lo:hi] -/
def optI (c : Option SE) (e : Env) : Option (Option Int × Env) := match c with
  | none => some (none, e)
  | some c => match c e with | some (.d (.int i), e1) => some (some i, e1) | _ => none
def cut {α : Type} (xs : List α) (lo hi : Option Int) : List α := (xs.drop (HT.sIx xs.length 0 lo)).take (HT.sIx xs.length xs.length hi - HT.sIx xs.length 0 lo)
def sliceV (x : D) (lo hi : Option Int) : Option M := match x with
  | .lst xs => some (.lst ((cut xs lo hi).map .d))
  | .frl xs => some (.lst ((cut xs lo hi).map .d))
  | .tup xs => some (.d (.tup (cut xs lo hi)))
  | _ => none
def cSl (a : SE) (lo hi : Option SE) : SE := fun e => match a e with
  | some (x, e1) => match optI lo e1 with
    | some (l, e2) => match optI hi e2 with
      | some (h, e3) => match sliceV x.fz l h with | some m => some (m, e3) | none => none
      | none => none
    | none => none
  | none => none
def cFld (a : SE) (f : Str) : SE := fun e => match a e with
  | some (x, e1) => match x.fz with
    | .obj _ ns xs => match fIx ns f with
      | some j => match xs[j]? with | some y => some (.d y, e1) | none => none
      | none => none
    | _ => none
  | none => none

/-! ### built-in functions -/
/-- by a look -/
def bK (f : D → Option M) (k : SK) : SE := fun e => match k e with
  | some v => match v.read e with
    | some x => match f x with | some m => some (m, e) | none => none
    | none => none
  | none => none
/-- by values -/
def bV (f : List D → Option M) (cs : List SE) : SE := fun e => match evL cs e with
  | some (ms, e1) => match f (M.fzs ms) with | some m => some (m, e1) | none => none
  | none => none
def one (f : D → Option M) : List D → Option M
  | [x] => f x
  | _ => none
def asInts : List D → Option (List Int)
  | [] => some []
  | .int i :: r => match asInts r with | some is => some (i :: is) | none => none
  | _ :: _ => none
def lenD (x : D) : Option M := match x.len with | some n => some (.d (.int n)) | none => none
def lstD (x : D) : Option M := match x.items with | some xs => some (.lst (xs.map .d)) | none => none
def tupD (x : D) : Option M := match x.items with | some xs => some (.d (.tup xs)) | none => none
def sumD (x : D) : Option M := match x.items with
  | some xs => match asInts xs with | some is => some (.d (.int is.sum)) | none => none
  | none => none
def okAll (xs : List PyData) : Bool := xs.all fun x => xs.all fun y => okLt x y
def minD (x : D) : Option M := match x.items with
  | some xs => match D.pys xs with
    | some (a :: r) => if okAll (a :: r) then some (.d (ofPy (W.minD a r))) else none
    | _ => none
  | none => none
def maxD (x : D) : Option M := match x.items with
  | some xs => match D.pys xs with
    | some (a :: r) => if okAll (a :: r) then some (.d (ofPy (W.maxD a r))) else none
    | _ => none
  | none => none
/-- sorted(x) -/
def srtOk (xs : List PyData) : Bool := okAll xs && ((xs.all fun x => match x with | .tuple (_ :: _) => true | _ => false) || (xs.all fun x => match x with | .none => false | .tuple _ => false | _ => true))
def sortD (x : D) : Option M := match x.items with
  | some xs => match D.pys xs with
    | some ys => if srtOk ys && decide (ys.length ≤ line) then some (.lst ((ofPys (ys.mergeSort (W.dataLe false id))).map .d)) else none
    | none => none
  | none => none
def minL : List D → Option M
  | [x] => minD x
  | [.int a, .int b] => some (.d (.int (if b < a then b else a)))
  | _ => none
def maxL : List D → Option M
  | [x] => maxD x
  | [.int a, .int b] => some (.d (.int (if b > a then b else a)))
  | _ => none
def intL : List D → Option M
  | [.int a] => some (.d (.int a))
  | [.bl b] => some (.d (.int (if b then 1 else 0)))
  | _ => none
def absL : List D → Option M
  | [.int a] => some (.d (.int (if a < 0 then -a else a)))
  | _ => none
/-- isinstance(x, T): T by name -/
def tyD : D → Option String
  | .non => some "NoneType"
  | .int _ => some "int"
  | .bl _ => some "bool"
  | .str _ => some "str"
  | .tup _ => some "tuple"
  | .lst _ => some "list"
  | .frl _ => some "list"
  | .obj _ _ _ => none
def isB (t T : String) : Bool := t == T || (t == "bool" && T == "int")
def known (T : String) : Bool := T == "int" || T == "bool" || T == "str" || T == "tuple" || T == "list"
def isTs (Ts : List String) (x : D) : Option M := match tyD x with
  | some t => if Ts.all known then some (.d (.bl (Ts.any (isB t)))) else none
  | none => none
def rangeI (lo hi : Int) : List Int := (List.range (hi - lo).toNat).map fun i => lo + (i : Nat)
def smallR (lo hi : Int) : Bool := decide (lo.natAbs < 2 ^ 60) && decide (hi.natAbs < 2 ^ 60)
def rangeL (bound : Bool) : List D → Option (List D)
  | [.int n] => if smallR 0 n && (!bound || decide (n.toNat ≤ line)) then some ((rangeI 0 n).map .int) else none
  | [.int a, .int b] => if smallR a b && (!bound || decide ((b - a).toNat ≤ line)) then some ((rangeI a b).map .int) else none
  | _ => none
/-- list(range(..)) -/
def lstRange (xs : List D) : Option M := match rangeL true xs with | some ys => some (.lst (ys.map .d)) | none => none
/-- len(set(xs)) of whole numbers -/
def lenSet (x : D) : Option M := match x.items with
  | some xs => match asInts xs with
    | some is => if is.Nodup ∧ is.length ≤ 4000 then some (.d (.int is.length)) else none
    | none => none
  | none => none
/-- xs.index(y), xs.count(y) -/
def mthD (m : String) (x : D) (ys : List D) : Option M := match x.items with
  | some xs => match ys with
    | [y] => if m = "index" then (match idxD y xs with | some j => some (.d (.int j)) | none => none)
      else if m = "count" then (match cntD y xs with | some j => some (.d (.int j)) | none => none) else none
    | _ => none
  | none => none
/-- a method that reads, by values -/
def mV (m : String) (a : SE) (cs : List SE) : SE := fun e => match a e with
  | some (x, e1) => match evL cs e1 with
    | some (ms, e2) => match mthD m x.fz (M.fzs ms) with | some z => some (z, e2) | none => none
    | none => none
  | none => none
def evP : List SP → Env → Option (List D)
  | [], _ => some []
  | q :: r, e => match q e with
    | some x => match evP r e with | some xs => some (x :: xs) | none => none
    | none => none
/-- .. by a look, the arguments pure -/
def mK (m : String) (k : SK) (qs : List SP) : SE := fun e => match k e with
  | some v => match v.read e with
    | some x => match evP qs e with
      | some ys => match mthD m x ys with | some z => some (z, e) | none => none
      | none => none
    | none => none
  | none => none

/-! ### tests -/
def truth : D → Option Bool
  | .bl b => some b
  | .int i => some (i != 0)
  | .non => some false
  | .tup xs => some (!xs.isEmpty)
  | .lst xs => some (!xs.isEmpty)
  | .frl xs => some (!xs.isEmpty)
  | _ => none
def tV (c : SE) : ST := fun e => match c e with
  | some (m, e1) => match truth m.fz with | some b => some (b, e1) | none => none
  | none => none
/-- a value that is a bool -/
def tB (c : SE) : ST := fun e => match c e with
  | some (.d (.bl b), e1) => some (b, e1)
  | _ => none
def tK (k : SK) : ST := fun e => match k e with
  | some v => match v.read e with
    | some x => match truth x with | some b => some (b, e) | none => none
    | none => none
  | none => none
def tAnd (a b : ST) : ST := fun e => match a e with
  | some (x, e1) => if x then b e1 else some (false, e1)
  | none => none
def tOr (a b : ST) : ST := fun e => match a e with
  | some (x, e1) => if x then some (true, e1) else b e1
  | none => none
def tNot (a : ST) : ST := fun e => match a e with
  | some (x, e1) => some (!x, e1)
  | none => none
def tYes : ST := fun e => some (true, e)

/-! ### what is walked -/
def iV (c : SE) : SI := fun e => match c e with
  | some (m, e1) => match m.fz.items with | some xs => some (xs, e1) | none => none
  | none => none
def iRng (cs : List SE) : SI := fun e => match evL cs e with
  | some (ms, e1) => match rangeL false (M.fzs ms) with | some xs => some (xs, e1) | none => none
  | none => none
def enumD (xs : List D) : List D := (List.range xs.length).zip xs |>.map fun p => .tup [.int (p.1 : Nat), p.2]
def iEnum (c : SE) : SI := fun e => match c e with
  | some (m, e1) => match m.fz.items with | some xs => some (enumD xs, e1) | none => none
  | none => none
def zipD (xs ys : List D) : List D := (xs.zip ys).map fun p => .tup [p.1, p.2]
/-- zip of two lists, or of two tuples, of one length -/
def zipOk (x y : D) : Option (List D) := match x, y with
  | .lst xs, .lst ys => if xs.length = ys.length then some (zipD xs ys) else none
  | .tup xs, .tup ys => if xs.length = ys.length then some (zipD xs ys) else none
  | _, _ => none
def iZip (a b : SE) : SI := fun e => match a e with
  | some (x, e1) => match b e1 with
    | some (y, e2) => match zipOk x.fz y.fz with | some xs => some (xs, e2) | none => none
    | none => none
  | none => none
def iRev (c : SE) : SI := fun e => match c e with
  | some (m, e1) => match m.fz.items with | some xs => some (xs.reverse, e1) | none => none
  | none => none

/-! ### targets -/
inductive Tg where
  | n (i : Nat) | t (gs : List Tg)
mutual
def Tg.set : Tg → D → Env → Option Env
  | .n i, x, e => some (e.set i (some (.d x)))
  | .t gs, x, e => match x with
    | .tup xs => Tg.sets gs xs e
    | _ => none
def Tg.sets : List Tg → List D → Env → Option Env
  | [], [], e => some e
  | g :: gs, x :: xs, e => match Tg.set g x e with | some e1 => Tg.sets gs xs e1 | none => none
  | _, _, _ => none
end

/-! ### comprehensions -/
def wipeE (e : Env) : List Nat → Env
  | [] => e
  | v :: vs => (wipeE e vs).set v none
/-- the slots vs as they were in e0 -/
def backE (e0 : Env) (e : Env) : List Nat → Env
  | [] => e
  | v :: vs => (backE e0 e vs).set v (e0.getD v none)
/-- the slots hold no container -/
def flatE (e : Env) (vs : List Nat) : Bool := vs.all fun v => match e.slot v with | none => true | some (.d _) => true | _ => false
mutual
def Tg.ns : Tg → List Nat
  | .n i => [i]
  | .t gs => Tg.nss gs
def Tg.nss : List Tg → List Nat
  | [] => []
  | g :: gs => Tg.ns g ++ Tg.nss gs
end
def compL (g : Tg) (t : ST) (c : SE) (vs : List Nat) : List D → Env → Option (List M × Env)
  | [], e => some ([], e)
  | x :: r, e => match g.set x (wipeE e vs) with
    | none => none
    | some e1 => match t e1 with
      | none => none
      | some (false, e2) => compL g t c vs r e2
      | some (true, e2) => match c e2 with
        | none => none
        | some (m, e3) => match compL g t c vs r e3 with
          | some (ms, e4) => some (m :: ms, e4)
          | none => none
def cComp (vs : List Nat) (it : SI) (g : Tg) (t : ST) (c : SE) : SE := fun e => match it e with
  | none => none
  | some (xs, e1) => if xs.length < line ∧ flatE e1 vs = true ∧ (g.ns.all fun j => vs.contains j) = true then
      match compL g t c vs xs e1 with
      | some (ms, e2) => some (.lst ms, backE e1 e2 vs)
      | none => none
    else none

/-! ### calls of the program's own -/
inductive AV where
  | m (m : M) | lend (i : Nat)
abbrev SA := Env → Option (AV × Env)
def aV (c : SE) : SA := fun e => match c e with | some (m, e1) => some (.m m, e1) | none => none
/-- a name's container is lent; shared data is handed on -/
def aL (i : Nat) : SA := fun e => match e.slot i with
  | some (.d x) => some (.m (.d x), e)
  | some _ => some (.lend i, e)
  | none => none
def evA : List SA → Env → Option (List AV × Env)
  | [], e => some ([], e)
  | a :: r, e => match a e with
    | some (v, e1) => match evA r e1 with | some (vs, e2) => some (v :: vs, e2) | none => none
    | none => none
/-- the lent ones are taken out of their slots -/
def takeA : List AV → Env → Option (List M × Env)
  | [], e => some ([], e)
  | .m m :: r, e => match takeA r e with | some (ms, e1) => some (m :: ms, e1) | none => none
  | .lend i :: r, e => match e.slot i with
    | some m => match takeA r (e.set i none) with | some (ms, e1) => some (m :: ms, e1) | none => none
    | none => none
/-- and come back -/
def backA (avs : List AV) : List Nat → List M → Env → Env
  | j :: mu, o :: os, e => match avs[j]? with
    | some (.lend i) => backA avs mu os (e.set i (some o))
    | _ => backA avs mu os e
  | _, _, e => e
/-- only what the callee hands back may be lent -/
def lentOk (mu : List Nat) (avs : List AV) : Bool := (List.range avs.length).all fun j => match avs[j]? with | some (.lend _) => mu.contains j | _ => true
abbrev Fn := List M → Option (M × List M)
/-- the written arguments, then the defaults dn -/
def cCall (r : Fn) (mu : List Nat) (dn : List Int) (as : List SA) : SE := fun e => match evA as e with
  | none => none
  | some (avs, e1) => match takeA avs e1 with
    | none => none
    | some (ms, e2) => match r (ms ++ dn.map fun i => .d (.int i)) with
      | some (m, os) => some (m, backA avs mu os e2)
      | none => none
/-- the class of a receiver, if it has no field of the name -/
def M.cls (f : Str) : M → Option Str
  | .d (.obj c ns _) => if fIx ns f = none then some c else none
  | .obj c ns _ => if fIx ns f = none then some c else none
  | _ => none
def AV.cls (f : Str) (e : Env) : AV → Option Str
  | .m x => x.cls f
  | .lend i => match e.slot i with | some x => x.cls f | none => none
structure Mt where
  r : Fn
  mu : List Nat
  dn : List Int
/-- a.f(..): tb tells the methods of that name, by class -/
def cMeth (f : Str) (tb : Str → Option Mt) (a : SA) (as : List SA) : SE := fun e => match a e with
  | none => none
  | some (av, e1) => match av.cls f e1 with
    | none => none
    | some c => match tb c with
      | none => none
      | some t => match evA as e1 with
        | none => none
        | some (avs, e2) => match takeA (av :: avs) e2 with
          | none => none
          | some (ms, e3) => match t.r (ms ++ t.dn.map fun i => .d (.int i)) with
            | some (m, os) => some (m, backA (av :: avs) t.mu os e3)
            | none => none
/-- C(..) -/
def cMake (c : Str) (r : Fn) (dn : List Int) (as : List SA) : SE := fun e => match evA as e with
  | none => none
  | some (avs, e1) => match takeA avs e1 with
    | none => none
    | some (ms, e2) => match r (.obj c [] [] :: (ms ++ dn.map fun i => .d (.int i))) with
        | some (.d .non, [o]) => some (o, e2)
        | _ => none

/-! ### statements -/
def sSkip : SS := fun e => some (.nx e)
def sFail : SS := fun _ => none
def sSeq (a b : SS) : SS := fun e => match a e with
  | some (.nx e1) => b e1
  | r => r
def sDrop (c : SE) : SS := fun e => match c e with | some (_, e1) => some (.nx e1) | none => none
def sAsg (i : Nat) (c : SE) : SS := fun e => match c e with | some (m, e1) => some (.nx (e1.set i (some m))) | none => none
def sTgt (g : Tg) (c : SE) : SS := fun e => match c e with
  | some (m, e1) => match g.set m.fz e1 with | some e2 => some (.nx e2) | none => none
  | none => none
/-- x.f = c, x a name -/
def M.setF (fa : Str → Str → Bool) (m : M) (f : Str) (x : M) : Option M := match m with
  | .obj c ns xs => match fIx ns f with
    | some j => some (.obj c ns (xs.set j x))
    | none => if ns.length < 999 ∧ fa c f = true then some (.obj c (ns ++ [f]) (xs ++ [x])) else none
  | _ => none
def sFld (fa : Str → Str → Bool) (k : SK) (f : Str) (c : SE) : SS := fun e => match c e with
  | some (x, e1) => match k e1 with
    | some (.at i p) => match e1.at i p with
      | some m => match m.setF fa f x with | some m' => some (.nx (e1.putAt i p m')) | none => none
      | none => none
    | _ => none
  | none => none
/-- x[q] = c, x looked at -/
def M.setI (m : M) (n : Int) (x : M) : Option M := match m with
  | .lst ms => match L2.ixN ms.length n with | some j => some (.lst (ms.set j x)) | none => none
  | _ => none
def sIdx (k : SK) (q : SP) (c : SE) : SS := fun e => match c e with
  | some (x, e1) => match k e1 with
    | some (.at i p) => match q e1 with
      | some (.int n) => match e1.at i p with
        | some m => match m.setI n x with | some m' => some (.nx (e1.putAt i p m')) | none => none
        | none => none
      | _ => none
    | _ => none
  | none => none
/-- xs.append(c), xs a name -/
def sApp (i : Nat) (c : SE) : SS := fun e => match e.slot i with
  | some (.lst _) => match c e with
    | some (x, e1) => match e1.slot i with
      | some (.lst ms) => if ms.length < line then some (.nx (e1.set i (some (.lst (ms ++ [x]))))) else none
      | _ => none
    | none => none
  | _ => none
/-- k.append(q), both but looked at -/
def sAppK (k : SK) (q : SP) : SS := fun e => match k e with
  | some (.at i p) => match q e with
    | some x => match e.at i p with
      | some (.lst ms) => if ms.length < line then some (.nx (e.putAt i p (.lst (ms ++ [.d x])))) else none
      | _ => none
    | none => none
  | _ => none
def sAug (i : Nat) (op : Operator) (c : SE) : SS := fun e => match e.slot i with
  | some (.d (.int a)) => match c e with
    | some (.d (.int b), e1) => match binI op a b with | some z => some (.nx (e1.set i (some (.d (.int z))))) | none => none
    | _ => none
  | _ => none
def sIf (t : ST) (a b : SS) : SS := fun e => match t e with
  | some (x, e1) => if x then a e1 else b e1
  | none => none
def sRet (c : SE) : SS := fun e => match c e with | some (m, e1) => some (.rt m e1) | none => none
def sRetN : SS := fun e => some (.rt (.d .non) e)
/-- return x: the container goes with it -/
def sRetV (i : Nat) : SS := fun e => match e.slot i with | some m => some (.rt m (e.set i none)) | none => none
def sAssert (t : ST) : SS := fun e => match t e with | some (true, e1) => some (.nx e1) | _ => none
def sBreak : SS := fun e => some (.bk e)
def sCont : SS := fun e => some (.ct e)
def forL (g : Tg) (b : SS) : List D → Env → Option R
  | [], e => some (.nx e)
  | x :: r, e => match g.set x e with
    | none => none
    | some e1 => match b e1 with
      | some (.nx e2) => forL g b r e2
      | some (.ct e2) => forL g b r e2
      | some (.bk e2) => some (.nx e2)
      | some (.rt m e2) => some (.rt m e2)
      | none => none
def sFor (it : SI) (g : Tg) (b : SS) : SS := fun e => match it e with
  | some (xs, e1) => forL g b xs e1
  | none => none
/-- a def's run -/
def takeO : List Nat → Env → Option (List M)
  | [], _ => some []
  | j :: mu, e => match e.slot j with
    | some m => match takeO mu (e.set j none) with | some ms => some (m :: ms) | none => none
    | none => none
def startE (n : Nat) (ms : List M) : Env := ms.map some ++ List.replicate (n - ms.length) none
def runF (f : SS) (n np : Nat) (mu : List Nat) : Fn := fun ms => if ms.length = np then
    match f (startE n ms) with
    | some (.nx e) => match takeO mu e with | some os => some (.d .non, os) | none => none
    | some (.rt m e) => match takeO mu e with | some os => some (m, os) | none => none
    | _ => none
  else none
def whileL (t : ST) (b : SS) : Nat → Env → Option R
  | 0, _ => none
  | n + 1, e => match t e with
    | none => none
    | some (false, e1) => some (.nx e1)
    | some (true, e1) => match b e1 with
      | some (.nx e2) => whileL t b n e2
      | some (.ct e2) => whileL t b n e2
      | some (.bk e2) => some (.nx e2)
      | some (.rt m e2) => some (.rt m e2)
      | none => none
def sWhile (F : Nat) (t : ST) (b : SS) : SS := fun e => whileL t b F e
end Ev
set_option Elab.async false
set_option linter.all false
set_option maxRecDepth 100000
set_option maxHeartbeats 1000000
/-! How values stand in the abstract heap. -/
namespace Ev
open PySem PySem.Spec PyProof.Rows
open L2 (V HO Hp SqL SqT Same upd upd_same upd_ne)

/-- an annotated tree: the container's addresses are told -/
inductive MA where
  | d (x : D) (v : V)
  | lst (a : Addr) (ts : List MA)
  | obj (c : Str) (C dx a : Addr) (ns : List Str) (ts : List MA)
def MA.val : MA → V
  | .d _ v => v
  | .lst a _ => .ref a
  | .obj _ _ _ a _ _ => .ref a
mutual
def MA.er : MA → M
  | .d x _ => .d x
  | .lst _ ts => .lst (MA.ers ts)
  | .obj c _ _ _ ns ts => .obj c ns (MA.ers ts)
def MA.ers : List MA → List M
  | [] => []
  | t :: r => MA.er t :: MA.ers r
end
abbrev Cell := Addr × HO
mutual
def MA.cells : MA → List Cell
  | .d _ _ => []
  | .lst a ts => (a, .lst (ts.map MA.val)) :: MA.cellsL ts
  | .obj _ C dx a ns ts => (a, .ins C dx (ns.zip (ts.map MA.val))) :: (dx, .own a) :: MA.cellsL ts
def MA.cellsL : List MA → List Cell
  | [] => []
  | t :: r => MA.cells t ++ MA.cellsL r
end
theorem ers_map : ∀ ts : List MA, MA.ers ts = ts.map MA.er
  | [] => by simp [MA.ers]
  | t :: r => by simp [MA.ers, ers_map r]
theorem cellsL_app : ∀ ts us : List MA, MA.cellsL (ts ++ us) = MA.cellsL ts ++ MA.cellsL us
  | [], us => by simp [MA.cellsL]
  | t :: r, us => by simp [MA.cellsL, cellsL_app r us]

/-- a tuple as it is made: no dict of its own -/
def mkT (its : List Value) : Obj := { cls := .type "tuple", data := .seq its.toArray }
abbrev HOt (its : List Value) (vs : List V) : HO := .frz (mkT its) (.tup vs)
/-- at a a plain tuple of xs: made by the program, or written at its top -/
def PTu (K : PySem.W.Frag) (B : Hp) (a : Addr) (xs : List V) : Prop :=
  (∃ its, B a = some (HOt its xs)) ∨ ∃ (o : Obj) (its : Array Value) (n : Nat), K.lookup a = some o ∧ o.cls = .type "tuple" ∧ o.dict = none ∧ o.data = .seq its n ∧ its.size ≤ sizeLine ∧ L2.Vals xs its.toList
theorem PTu.sq {K : PySem.W.Frag} {B : Hp} {a : Addr} {xs : List V} (h : PTu K B a xs) : SqT K B a xs := by
  rcases h with ⟨its, h⟩ | ⟨o, its, n, h1, h2, _, h3⟩
  · exact .inl (.inr ⟨_, h⟩)
  · exact .inr ⟨o, its, n, h1, h2, h3⟩
theorem PTu.mono {K : PySem.W.Frag} {B B' : Hp} {a : Addr} {xs : List V} (e : Same B B') (h : PTu K B a xs) : PTu K B' a xs := by
  rcases h with ⟨its, h⟩ | h
  · exact .inl ⟨its, e _ _ h⟩
  · exact .inr h
section
variable (K : PySem.W.Frag) (ct : Str → Option Addr)
/-- c is the class at C; ns are attributes that the class itself has not -/
structure ObjC (c : Str) (C : Addr) (ns : List Str) : Prop where
  at_ : ct c = some C
  cls : L2.Cls K C
  na : ∀ f ∈ ns, L2.NoAttr K C f
  few : ns.length < 1000
mutual
def RepD (B : Hp) : D → V → Prop
  | .non, v => v = .non
  | .bl b, v => v = .bl b
  | .int i, v => v = .int i
  | .str s, v => v = .str s
  | .tup ds, v => ∃ a xs, v = .ref a ∧ PTu K B a xs ∧ RepDs B ds xs
  | .lst ds, v => ∃ a xs, v = .ref a ∧ B a = some (.lst xs) ∧ RepDs B ds xs
  | .frl ds, v => ∃ a xs, v = .ref a ∧ SqL K B a xs ∧ RepDs B ds xs
  | .obj c ns ds, v => ∃ a C dx xs, v = .ref a ∧ ObjC K ct c C ns ∧ B a = some (.ins C dx (ns.zip xs)) ∧ ns.length = ds.length ∧ RepDs B ds xs
def RepDs (B : Hp) : List D → List V → Prop
  | [], vs => vs = []
  | d :: ds, vs => ∃ v r, vs = v :: r ∧ RepD B d v ∧ RepDs B ds r
end
mutual
/-- the leaves are represented, the sizes are within -/
def MA.ok (B : Hp) : MA → Prop
  | .d x v => RepD K ct B x v
  | .lst _ ts => MA.oks B ts
  | .obj c C _ _ ns ts => ObjC K ct c C ns ∧ ns.length = ts.length ∧ MA.oks B ts
def MA.oks (B : Hp) : List MA → Prop
  | [] => True
  | t :: r => MA.ok B t ∧ MA.oks B r
end
end

section
variable {K : PySem.W.Frag} {ct : Str → Option Addr} {B B' H H' : Hp}
mutual
theorem RepD.mono (e : Same B B') : ∀ {d : D} {v : V}, RepD K ct B d v → RepD K ct B' d v
  | .non, _, h => by unfold RepD at *; exact h
  | .bl _, _, h => by unfold RepD at *; exact h
  | .int _, _, h => by unfold RepD at *; exact h
  | .str _, _, h => by unfold RepD at *; exact h
  | .tup ds, v, h => by
    unfold RepD at *
    obtain ⟨a, xs, q, h1, h2⟩ := h
    exact ⟨a, xs, q, h1.mono e, RepDs.mono e h2⟩
  | .lst ds, v, h => by
    unfold RepD at *
    obtain ⟨a, xs, q, h1, h2⟩ := h
    exact ⟨a, xs, q, e _ _ h1, RepDs.mono e h2⟩
  | .frl ds, v, h => by
    unfold RepD at *
    obtain ⟨a, xs, q, h1, h2⟩ := h
    exact ⟨a, xs, q, e.seq h1, RepDs.mono e h2⟩
  | .obj c ns ds, v, h => by
    unfold RepD at *
    obtain ⟨a, C, dx, xs, q, h0, h1, h3, h2⟩ := h
    exact ⟨a, C, dx, xs, q, h0, e _ _ h1, h3, RepDs.mono e h2⟩
theorem RepDs.mono (e : Same B B') : ∀ {ds : List D} {vs : List V}, RepDs K ct B ds vs → RepDs K ct B' ds vs
  | [], _, h => by unfold RepDs at *; exact h
  | d :: ds, vs, h => by
    unfold RepDs at *
    obtain ⟨v, r, q, h1, h2⟩ := h
    exact ⟨v, r, q, RepD.mono e h1, RepDs.mono e h2⟩
end
theorem RepDs.cons {d : D} {ds : List D} {v : V} {vs : List V} (h : RepD K ct B d v) (r : RepDs K ct B ds vs) : RepDs K ct B (d :: ds) (v :: vs) := by
  unfold RepDs; exact ⟨v, vs, rfl, h, r⟩
theorem RepDs.nil : RepDs K ct B [] [] := by unfold RepDs; rfl
theorem RepDs.uncons {d : D} {ds : List D} {v : V} {vs : List V} (h : RepDs K ct B (d :: ds) (v :: vs)) : RepD K ct B d v ∧ RepDs K ct B ds vs := by
  unfold RepDs at h
  obtain ⟨v', r', e, h1, h2⟩ := h
  cases e; exact ⟨h1, h2⟩
theorem RepDs.length : ∀ {ds : List D} {vs : List V}, RepDs K ct B ds vs → ds.length = vs.length
  | [], _, h => by unfold RepDs at h; subst h; rfl
  | d :: ds, vs, h => by
    unfold RepDs at h
    obtain ⟨v, r, q, _, h2⟩ := h
    subst q
    simp [RepDs.length h2]
theorem RepDs.get : ∀ {ds : List D} {vs : List V} {i : Nat} {d : D}, RepDs K ct B ds vs → ds[i]? = some d → ∃ v, vs[i]? = some v ∧ RepD K ct B d v
  | [], _, _, _, _, e => by simp at e
  | d :: ds, vs, 0, x, h, e => by
    unfold RepDs at h
    obtain ⟨v, r, q, h1, _⟩ := h
    simp at e; subst e; subst q
    exact ⟨v, rfl, h1⟩
  | d :: ds, vs, i + 1, x, h, e => by
    unfold RepDs at h
    obtain ⟨v, r, q, _, h2⟩ := h
    subst q
    obtain ⟨v', e', h'⟩ := RepDs.get (i := i) h2 (by simpa using e)
    exact ⟨v', by simpa using e', h'⟩
theorem RepDs.app : ∀ {ds es : List D} {vs ws : List V}, RepDs K ct B ds vs → RepDs K ct B es ws → RepDs K ct B (ds ++ es) (vs ++ ws)
  | [], _, _, _, h, h' => by unfold RepDs at h; subst h; exact h'
  | d :: ds, es, vs, ws, h, h' => by
    unfold RepDs at h
    obtain ⟨v, r, q, h1, h2⟩ := h
    subst q
    exact RepDs.cons h1 (RepDs.app h2 h')
theorem RepDs.drop : ∀ {ds : List D} {vs : List V} (n : Nat), RepDs K ct B ds vs → RepDs K ct B (ds.drop n) (vs.drop n)
  | _, _, 0, h => h
  | [], _, n + 1, h => by unfold RepDs at h; subst h; simp; exact RepDs.nil
  | d :: ds, vs, n + 1, h => by
    unfold RepDs at h
    obtain ⟨v, r, q, _, h2⟩ := h
    subst q
    exact RepDs.drop n h2
theorem RepDs.take : ∀ {ds : List D} {vs : List V} (n : Nat), RepDs K ct B ds vs → RepDs K ct B (ds.take n) (vs.take n)
  | _, _, 0, h => by simp; exact RepDs.nil
  | [], _, n + 1, h => by unfold RepDs at h; subst h; simp; exact RepDs.nil
  | d :: ds, vs, n + 1, h => by
    unfold RepDs at h
    obtain ⟨v, r, q, h1, h2⟩ := h
    subst q
    exact RepDs.cons h1 (RepDs.take n h2)
theorem RepDs.rev : ∀ {ds : List D} {vs : List V}, RepDs K ct B ds vs → RepDs K ct B ds.reverse vs.reverse
  | [], _, h => by unfold RepDs at h; subst h; exact RepDs.nil
  | d :: ds, vs, h => by
    unfold RepDs at h
    obtain ⟨v, r, q, h1, h2⟩ := h
    subst q
    rw [List.reverse_cons, List.reverse_cons]
    exact RepDs.app (RepDs.rev h2) (RepDs.cons h1 RepDs.nil)
theorem RepDs.rep {ds : List D} {vs : List V} (h : RepDs K ct B ds vs) : ∀ n : Nat, RepDs K ct B (List.replicate n ds).flatten (List.replicate n vs).flatten
  | 0 => by simp; exact RepDs.nil
  | n + 1 => by
    rw [List.replicate_succ, List.replicate_succ, List.flatten_cons, List.flatten_cons]
    exact RepDs.app h (RepDs.rep h n)
theorem RepDs.ints : ∀ {is : List Int}, RepDs K ct B (is.map .int) (is.map .int)
  | [] => RepDs.nil
  | i :: r => RepDs.cons (by unfold RepD; rfl) RepDs.ints

mutual
theorem MA.ok.mono (e : Same B B') : ∀ {t : MA}, MA.ok K ct B t → MA.ok K ct B' t
  | .d x v, h => by unfold MA.ok at *; exact RepD.mono e h
  | .lst a ts, h => by unfold MA.ok at *; exact MA.oks.mono e h
  | .obj c C dx a ns ts, h => by
    unfold MA.ok at *
    exact ⟨h.1, h.2.1, MA.oks.mono e h.2.2⟩
theorem MA.oks.mono (e : Same B B') : ∀ {ts : List MA}, MA.oks K ct B ts → MA.oks K ct B' ts
  | [], _ => by unfold MA.oks; trivial
  | t :: r, h => by
    unfold MA.oks at *
    exact ⟨MA.ok.mono e h.1, MA.oks.mono e h.2⟩
end
theorem oks_iff : ∀ {ts : List MA}, MA.oks K ct B ts ↔ ∀ t ∈ ts, MA.ok K ct B t
  | [] => by unfold MA.oks; simp
  | t :: r => by unfold MA.oks; rw [oks_iff]; simp

/-! ### well kept -/
/-- B the shared part; cs the cells that belong to somebody -/
structure Wf (B : Hp) (cs : List Cell) (H : Hp) : Prop where
  sub : Same B H
  own : ∀ c ∈ cs, H c.1 = some c.2 ∧ B c.1 = none
  nd : (cs.map (·.1)).Nodup
variable {cs cs' : List Cell} {p a : Addr} {o o' : HO}
theorem Wf.perm (h : Wf B cs H) (e : cs.Perm cs') : Wf B cs' H :=
  ⟨h.sub, fun c hc => h.own c (e.symm.subset hc), (e.map _).nodup_iff.mp h.nd⟩
theorem Wf.drop (h : Wf B (cs ++ cs') H) : Wf B cs' H :=
  ⟨h.sub, fun c hc => h.own c (List.mem_append_right _ hc), by
    have := h.nd; rw [List.map_append] at this; exact (List.nodup_append.mp this).2.1⟩
theorem Wf.free (h : Wf B cs H) (hp : H p = none) : B p = none := h.sub.free hp
theorem Wf.notin (h : Wf B cs H) (hp : H p = none) : p ∉ cs.map (·.1) := fun hm => by
  obtain ⟨c, hc, e⟩ := List.mem_map.mp hm
  have := (h.own c hc).1
  rw [e, hp] at this; cases this
theorem same_upd {p : Addr} {o : HO} (hp : H p = none) : Same H (upd H p o) := fun b x e => by
  rw [upd_ne (L2.ne_of_none e hp)]; exact e
/-- a new shared thing -/
theorem Wf.shared (h : Wf B cs H) (hp : H p = none) : Wf (upd B p o) cs (upd H p o) where
  sub := fun b x e => by
    by_cases hb : b = p
    · subst hb; rw [upd_same] at e ⊢; exact e
    · rw [upd_ne hb] at e ⊢; exact h.sub b x e
  own := fun c hc => by
    have hne : c.1 ≠ p := fun z => h.notin hp (z ▸ List.mem_map.mpr ⟨c, hc, rfl⟩)
    rw [upd_ne hne, upd_ne hne]; exact h.own c hc
  nd := h.nd
/-- a new owned thing -/
theorem Wf.owned (h : Wf B cs H) (hp : H p = none) : Wf B ((p, o) :: cs) (upd H p o) where
  sub := fun b x e => by
    have hne : b ≠ p := fun z => by subst z; rw [h.free hp] at e; cases e
    rw [upd_ne hne]; exact h.sub b x e
  own := fun c hc => by
    rcases List.mem_cons.mp hc with z | hc
    · subst z; exact ⟨upd_same, h.free hp⟩
    · have hne : c.1 ≠ p := fun z => h.notin hp (z ▸ List.mem_map.mpr ⟨c, hc, rfl⟩)
      rw [upd_ne hne]; exact h.own c hc
  nd := by
    rw [List.map_cons]; exact List.nodup_cons.mpr ⟨h.notin hp, h.nd⟩
/-- an owned thing is changed -/
theorem Wf.write (h : Wf B ((a, o) :: cs) H) : Wf B ((a, o') :: cs) (upd H a o') where
  sub := fun b x e => by
    have hne : b ≠ a := fun z => by subst z; rw [(h.own _ List.mem_cons_self).2] at e; cases e
    rw [upd_ne hne]; exact h.sub b x e
  own := fun c hc => by
    have nd := h.nd
    rw [List.map_cons, List.nodup_cons] at nd
    rcases List.mem_cons.mp hc with z | hc
    · subst z; exact ⟨upd_same, (h.own _ List.mem_cons_self).2⟩
    · have hne : c.1 ≠ a := fun z => nd.1 (z ▸ List.mem_map.mpr ⟨c, hc, rfl⟩)
      rw [upd_ne hne]; exact h.own c (List.mem_cons_of_mem _ hc)
  nd := by have nd := h.nd; rw [List.map_cons] at nd ⊢; exact nd
/-- an owned thing is given to all -/
theorem Wf.give1 (h : Wf B ((a, o) :: cs) H) : Wf (upd B a o) cs H where
  sub := fun b x e => by
    by_cases hb : b = a
    · subst hb; rw [upd_same] at e; cases e; exact (h.own _ List.mem_cons_self).1
    · rw [upd_ne hb] at e; exact h.sub b x e
  own := fun c hc => by
    have nd := h.nd
    rw [List.map_cons, List.nodup_cons] at nd
    have hne : c.1 ≠ a := fun z => nd.1 (z ▸ List.mem_map.mpr ⟨c, hc, rfl⟩)
    rw [upd_ne hne]; exact h.own c (List.mem_cons_of_mem _ hc)
  nd := by have nd := h.nd; rw [List.map_cons] at nd; exact (List.nodup_cons.mp nd).2
def updL (B : Hp) : List Cell → Hp
  | [] => B
  | c :: cs => updL (upd B c.1 c.2) cs
theorem Wf.give : ∀ {ds : List Cell} {B : Hp}, Wf B (ds ++ cs) H → Wf (updL B ds) cs H ∧ Same B (updL B ds) ∧ ∀ c ∈ ds, updL B ds c.1 = some c.2
  | [], B, h => ⟨h, Same.refl _, by simp⟩
  | c :: ds, B, h => by
    have h1 := Wf.give1 (a := c.1) (o := c.2) (cs := ds ++ cs) h
    obtain ⟨h2, h3, h4⟩ := Wf.give h1
    have hb : B c.1 = none := (h.own c List.mem_cons_self).2
    refine ⟨h2, (same_upd hb).trans h3, fun x hx => ?_⟩
    rcases List.mem_cons.mp hx with z | hx
    · subst z; exact h3 _ _ upd_same
    · exact h4 x hx
mutual
/-- a tree that is given to all is shared data -/
theorem frozen : ∀ {t : MA}, (∀ c ∈ t.cells, B c.1 = some c.2) → MA.ok K ct B t → RepD K ct B t.er.fz t.val
  | .d x v, _, h => by
    unfold MA.ok at h
    simp only [MA.er, M.fz, MA.val]; exact h
  | .lst a ts, hc, h => by
    unfold MA.ok at h
    simp only [MA.er, M.fz, MA.val]
    unfold RepD
    refine ⟨a, ts.map MA.val, rfl, hc (a, _) (by simp [MA.cells]), frozens (fun c hx => hc c (by simp [MA.cells, hx])) h⟩
  | .obj c C dx a ns ts, hc, h => by
    unfold MA.ok at h
    simp only [MA.er, M.fz, MA.val]
    unfold RepD
    refine ⟨a, C, dx, ts.map MA.val, rfl, h.1, hc (a, _) (by simp [MA.cells]), ?_, frozens (fun c hx => hc c (by simp [MA.cells, hx])) h.2.2⟩
    rw [M.fzs_map, ers_map]; simp [h.2.1]
theorem frozens : ∀ {ts : List MA}, (∀ c ∈ MA.cellsL ts, B c.1 = some c.2) → MA.oks K ct B ts → RepDs K ct B (M.fzs (MA.ers ts)) (ts.map MA.val)
  | [], _, _ => by simp only [MA.ers, M.fzs, List.map_nil]; exact RepDs.nil
  | t :: r, hc, h => by
    unfold MA.oks at h
    simp only [MA.ers, M.fzs, List.map_cons]
    exact RepDs.cons (frozen (fun c hx => hc c (by simp [MA.cellsL, hx])) h.1) (frozens (fun c hx => hc c (by simp [MA.cellsL, hx])) h.2)
end
end
end Ev
set_option Elab.async false
set_option linter.all false
set_option maxRecDepth 100000
set_option maxHeartbeats 1000000
/-! The slots and the heap; what a look finds; the readings. -/
namespace Ev
open PySem PySem.Spec PyProof.Rows
open L2 (V HO Hp SqL SqT Same upd upd_same upd_ne Cx)

/-! ### trees by paths -/
def MA.kids : MA → List MA
  | .d _ _ => []
  | .lst _ ts => ts
  | .obj _ _ _ _ _ ts => ts
def MA.wk : MA → List MA → MA
  | .d x v, _ => .d x v
  | .lst a _, us => .lst a us
  | .obj c C dx a ns _, us => .obj c C dx a ns us
def MA.sub : MA → List Nat → Option MA
  | t, [] => some t
  | t, i :: p => match t.kids[i]? with | some x => MA.sub x p | none => none
def MA.put : MA → List Nat → MA → MA
  | _, [], s => s
  | t, i :: p, s => match t.kids[i]? with | some x => t.wk (t.kids.set i (MA.put x p s)) | none => t
theorem er_kids (t : MA) : t.er.kids = t.kids.map MA.er := by
  cases t <;> simp [MA.er, M.kids, MA.kids, ers_map]
theorem er_wk (t : MA) (us : List MA) : (t.wk us).er = t.er.wk (us.map MA.er) := by
  cases t <;> simp [MA.er, M.wk, MA.wk, ers_map]
theorem er_sub : ∀ {p : List Nat} {t : MA} {m : M}, t.er.sub p = some m → ∃ s, t.sub p = some s ∧ s.er = m
  | [], t, m, h => ⟨t, rfl, by simpa [M.sub] using h⟩
  | i :: p, t, m, h => by
    unfold M.sub at h
    rw [er_kids, List.getElem?_map] at h
    unfold MA.sub
    cases e : t.kids[i]? with
    | none => rw [e] at h; simp at h
    | some x => rw [e] at h; exact er_sub (p := p) (t := x) h
theorem sub_er : ∀ {p : List Nat} {t s : MA}, t.sub p = some s → t.er.sub p = some s.er
  | [], t, s, h => by
    have e : t = s := by simpa [MA.sub] using h
    subst e; simp [M.sub]
  | i :: p, t, s, h => by
    unfold MA.sub at h
    unfold M.sub
    rw [er_kids, List.getElem?_map]
    cases e : t.kids[i]? with
    | none => rw [e] at h; cases h
    | some x => rw [e] at h; exact sub_er (p := p) (t := x) h
theorem wk_val (t : MA) (us : List MA) : (t.wk us).val = t.val := by cases t <;> rfl
theorem put_val : ∀ {p : List Nat} {t s s' : MA}, t.sub p = some s → s'.val = s.val → (t.put p s').val = t.val
  | [], t, s, s', h, hv => by
    have e : t = s := by simpa [MA.sub] using h
    subst e; exact hv
  | i :: p, t, s, s', h, hv => by
    unfold MA.sub at h
    unfold MA.put
    cases e : t.kids[i]? with
    | none => simp [e] at h
    | some x => exact wk_val t _
theorem set_same {α : Type} : ∀ {l : List α} {i : Nat} {x : α}, l[i]? = some x → l.set i x = l
  | [], _, _, h => by simp at h
  | a :: r, 0, x, h => by
    have e : a = x := by simpa using h
    subst e; rfl
  | a :: r, i + 1, x, h => by
    rw [List.set_cons_succ, set_same (by simpa using h)]
theorem put_er : ∀ {p : List Nat} {t s s' : MA}, t.sub p = some s → (t.put p s').er = t.er.put p s'.er
  | [], t, s, s', h => by simp [MA.put, M.put]
  | i :: p, t, s, s', h => by
    unfold MA.sub at h
    unfold MA.put M.put
    rw [er_kids, List.getElem?_map]
    cases e : t.kids[i]? with
    | none => rw [e] at h; cases h
    | some x =>
      rw [e] at h
      simp only [Option.map_some]
      rw [er_wk, List.map_set, put_er (p := p) (t := x) h]
theorem cellsL_set : ∀ {ts : List MA} {i : Nat} {x : MA}, ts[i]? = some x → ∃ R, (MA.cellsL ts).Perm (x.cells ++ R) ∧ ∀ y : MA, (MA.cellsL (ts.set i y)).Perm (y.cells ++ R)
  | [], _, _, h => by simp at h
  | t :: r, 0, x, h => by
    have e : t = x := by simpa using h
    subst e
    exact ⟨MA.cellsL r, by simp [MA.cellsL], fun y => by simp [MA.cellsL]⟩
  | t :: r, i + 1, x, h => by
    obtain ⟨R, h1, h2⟩ := cellsL_set (ts := r) (i := i) (x := x) (by simpa using h)
    refine ⟨t.cells ++ R, ?_, fun y => ?_⟩
    · simp only [MA.cellsL]
      refine (List.Perm.append_left _ h1).trans ?_
      rw [← List.append_assoc, ← List.append_assoc]
      exact List.Perm.append_right _ List.perm_append_comm
    · simp only [List.set_cons_succ, MA.cellsL]
      refine (List.Perm.append_left _ (h2 y)).trans ?_
      rw [← List.append_assoc, ← List.append_assoc]
      exact List.Perm.append_right _ List.perm_append_comm
/-- the cells of the container itself, by its items' values -/
def MA.top : MA → List V → List Cell
  | .d _ _, _ => []
  | .lst a _, vs => [(a, .lst vs)]
  | .obj _ C dx a ns _, vs => [(a, .ins C dx (ns.zip vs)), (dx, .own a)]
theorem cells_top (t : MA) : t.cells = t.top (t.kids.map MA.val) ++ MA.cellsL t.kids := by
  cases t <;> simp [MA.cells, MA.top, MA.kids, MA.cellsL]
theorem wk_top (t : MA) (us : List MA) (vs : List V) : (t.wk us).top vs = t.top vs := by cases t <;> rfl
theorem wk_kids (t : MA) (us : List MA) (h : t.kids ≠ []) : (t.wk us).kids = us := by
  cases t with
  | d _ _ => exact absurd rfl h
  | lst _ _ => rfl
  | obj _ _ _ _ _ _ => rfl
/-- a part of a tree: what else there is stays -/
theorem put_cells : ∀ {p : List Nat} {t s : MA}, t.sub p = some s → ∃ R, t.cells.Perm (s.cells ++ R) ∧ ∀ s' : MA, s'.val = s.val → (t.put p s').cells.Perm (s'.cells ++ R)
  | [], t, s, h => by
    have e : t = s := by simpa [MA.sub] using h
    subst e
    exact ⟨[], by simp, fun s' _ => by simp [MA.put]⟩
  | i :: p, t, s, h => by
    unfold MA.sub at h
    cases e : t.kids[i]? with
    | none => rw [e] at h; cases h
    | some x =>
      rw [e] at h
      obtain ⟨R, h1, h2⟩ := put_cells (p := p) (t := x) h
      obtain ⟨R', k1, k2⟩ := cellsL_set e
      have hk : t.kids ≠ [] := fun z => by rw [z] at e; simp at e
      refine ⟨t.top (t.kids.map MA.val) ++ R ++ R', ?_, fun s' hv => ?_⟩
      · rw [cells_top t]
        refine (List.Perm.append_left _ (k1.trans (List.Perm.append_right _ h1))).trans ?_
        rw [List.append_assoc, ← List.append_assoc, ← List.append_assoc, ← List.append_assoc]
        refine List.Perm.append_right _ ?_
        rw [← List.append_assoc]
        exact List.Perm.append_right _ List.perm_append_comm
      · unfold MA.put
        rw [e]
        simp only
        rw [cells_top (t.wk _), wk_kids _ _ hk, wk_top]
        have ev : (t.kids.set i (x.put p s')).map MA.val = t.kids.map MA.val := by
          rw [List.map_set, put_val h hv]
          exact set_same (by rw [List.getElem?_map, e]; rfl)
        rw [ev]
        refine (List.Perm.append_left _ ((k2 _).trans (List.Perm.append_right _ (h2 s' hv)))).trans ?_
        rw [List.append_assoc, ← List.append_assoc, ← List.append_assoc, ← List.append_assoc]
        refine List.Perm.append_right _ ?_
        rw [← List.append_assoc]
        exact List.Perm.append_right _ List.perm_append_comm

section
variable {K : PySem.W.Frag} {ct : Str → Option Addr} {B B' H H' : Hp}
theorem ok_kids {t : MA} (h : t.ok K ct B) : MA.oks K ct B t.kids := by
  cases t with
  | d x v => simp only [MA.kids]; unfold MA.oks; trivial
  | lst a ts => unfold MA.ok at h; exact h
  | obj c C dx a ns ts => unfold MA.ok at h; exact h.2.2
theorem ok_wk {t : MA} {us : List MA} (h : t.ok K ct B) (hl : us.length = t.kids.length) (hu : MA.oks K ct B us) : (t.wk us).ok K ct B := by
  cases t with
  | d x v => exact h
  | lst a ts => simp only [MA.wk]; unfold MA.ok; exact hu
  | obj c C dx a ns ts =>
    simp only [MA.wk]
    unfold MA.ok at h ⊢
    exact ⟨h.1, h.2.1.trans hl.symm, hu⟩
theorem ok_sub : ∀ {p : List Nat} {t s : MA}, t.sub p = some s → t.ok K ct B → s.ok K ct B
  | [], t, s, h, k => by
    have e : t = s := by simpa [MA.sub] using h
    subst e; exact k
  | i :: p, t, s, h, k => by
    unfold MA.sub at h
    cases e : t.kids[i]? with
    | none => simp [e] at h
    | some x =>
      rw [e] at h
      exact ok_sub (p := p) (t := x) h (oks_iff.mp (ok_kids k) x (List.mem_of_getElem? e))
theorem ok_put : ∀ {p : List Nat} {t s s' : MA}, t.sub p = some s → t.ok K ct B → s'.ok K ct B → (t.put p s').ok K ct B
  | [], t, s, s', h, k, k' => by simp only [MA.put]; exact k'
  | i :: p, t, s, s', h, k, k' => by
    unfold MA.sub at h
    unfold MA.put
    cases e : t.kids[i]? with
    | none => simp [e] at h
    | some x =>
      rw [e] at h
      refine ok_wk k (by simp) (oks_iff.mpr fun y hy => ?_)
      rcases List.mem_or_eq_of_mem_set hy with z | z
      · exact oks_iff.mp (ok_kids k) y z
      · subst z
        exact ok_put h (oks_iff.mp (ok_kids k) x (List.mem_of_getElem? e)) k'
end

/-! ### the slots -/
abbrev TE0 := List (Option MA)
def erE (τ : TE0) : Env := τ.map (·.map MA.er)
def cellsO : Option MA → List Cell
  | some t => t.cells
  | none => []
def cellsE (τ : TE0) : List Cell := τ.flatMap cellsO
structure RelS (σ : L2.St) (τ : TE0) : Prop where
  len : σ.length = τ.length
  at_ : ∀ (i : Nat) (t : MA), τ[i]? = some (some t) → σ[i]? = some (some t.val)
theorem erE_slot {τ : TE0} {i : Nat} {m : M} (h : (erE τ).slot i = some m) : ∃ t, τ[i]? = some (some t) ∧ t.er = m := by
  unfold Env.slot erE at h
  rw [List.getElem?_map] at h
  cases e : τ[i]? with
  | none => simp [e] at h
  | some o =>
    cases o with
    | none => simp [e] at h
    | some t => exact ⟨t, rfl, by simpa [e] using h⟩
theorem slot_erE {τ : TE0} {i : Nat} {t : MA} (h : τ[i]? = some (some t)) : (erE τ).slot i = some t.er := by
  unfold Env.slot erE
  rw [List.getElem?_map, h]; rfl
theorem erE_set {τ : TE0} {i : Nat} {o : Option MA} : erE (τ.set i o) = (erE τ).set i (o.map MA.er) := by
  unfold erE; rw [List.map_set]
theorem erE_at {τ : TE0} {i : Nat} {p : List Nat} {m : M} (h : (erE τ).at i p = some m) : ∃ t s, τ[i]? = some (some t) ∧ t.sub p = some s ∧ s.er = m := by
  unfold Env.at at h
  cases e : (erE τ).slot i with
  | none => simp [e] at h
  | some m0 =>
    rw [e] at h
    obtain ⟨t, h1, h2⟩ := erE_slot e
    subst h2
    obtain ⟨s, h3, h4⟩ := er_sub h
    exact ⟨t, s, h1, h3, h4⟩
theorem at_erE {τ : TE0} {i : Nat} {p : List Nat} {t s : MA} (h : τ[i]? = some (some t)) (h' : t.sub p = some s) : (erE τ).at i p = some s.er := by
  unfold Env.at
  rw [slot_erE h]
  exact sub_er h'
theorem putAt_erE {τ : TE0} {i : Nat} {p : List Nat} {t s s' : MA} (h : τ[i]? = some (some t)) (h' : t.sub p = some s) : (erE τ).putAt i p s'.er = erE (τ.set i (some (t.put p s'))) := by
  unfold Env.putAt
  rw [slot_erE h, erE_set]
  simp only [Option.map_some]
  rw [put_er h']
theorem cellsE_set : ∀ {τ : TE0} {i : Nat} {o : Option MA}, τ[i]? = some o → ∃ R, (cellsE τ).Perm (cellsO o ++ R) ∧ ∀ o', (cellsE (τ.set i o')).Perm (cellsO o' ++ R)
  | [], _, _, h => by simp at h
  | t :: r, 0, x, h => by
    have e : t = x := by simpa using h
    subst e
    exact ⟨cellsE r, by simp [cellsE], fun y => by simp [cellsE]⟩
  | t :: r, i + 1, x, h => by
    obtain ⟨R, h1, h2⟩ := cellsE_set (τ := r) (i := i) (o := x) (by simpa using h)
    unfold cellsE at h1 h2
    refine ⟨cellsO t ++ R, ?_, fun y => ?_⟩
    · simp only [cellsE, List.flatMap_cons]
      refine (List.Perm.append_left _ h1).trans ?_
      rw [← List.append_assoc, ← List.append_assoc]
      exact List.Perm.append_right _ List.perm_append_comm
    · simp only [List.set_cons_succ, cellsE, List.flatMap_cons]
      refine (List.Perm.append_left _ (h2 y)).trans ?_
      rw [← List.append_assoc, ← List.append_assoc]
      exact List.Perm.append_right _ List.perm_append_comm

section
variable (K : PySem.W.Frag) (ct : Str → Option Addr)
def OkE (B : Hp) (τ : TE0) : Prop := ∀ (i : Nat) (t : MA), τ[i]? = some (some t) → t.ok K ct B
/-- how slots, shared part, the frame F and the heap stand to one another -/
structure St (B : Hp) (F : List Cell) (σ : L2.St) (τ : TE0) (H : Hp) : Prop where
  wf : Wf B (cellsE τ ++ F) H
  ok : OkE K ct B τ
  rel : RelS σ τ
end
section
variable {K : PySem.W.Frag} {ct : Str → Option Addr} {B B' H H' : Hp} {F : List Cell} {σ : L2.St} {τ : TE0}
theorem OkE.mono (e : Same B B') (h : OkE K ct B τ) : OkE K ct B' τ := fun i t q => (h i t q).mono e
theorem OkE.set (h : OkE K ct B τ) {i : Nat} {o : Option MA} (ho : ∀ t, o = some t → t.ok K ct B) : OkE K ct B (τ.set i o) := fun j t q => by
  by_cases hj : i = j
  · subst hj
    by_cases hl : i < τ.length
    · rw [List.getElem?_set_self hl] at q
      exact ho t (Option.some.inj q)
    · rw [List.getElem?_eq_none (by simpa using hl)] at q; cases q
  · rw [List.getElem?_set_ne hj] at q
    exact h j t q
theorem RelS.set (h : RelS σ τ) {i : Nat} {t : MA} : RelS (σ.set i (some t.val)) (τ.set i (some t)) where
  len := by rw [List.length_set, List.length_set]; exact h.len
  at_ := fun j u q => by
    by_cases hj : i = j
    · subst hj
      by_cases hl : i < τ.length
      · rw [List.getElem?_set_self hl] at q
        cases q
        rw [List.getElem?_set_self (by rw [h.len]; exact hl)]
      · rw [List.getElem?_eq_none (by simpa using hl)] at q; cases q
    · rw [List.getElem?_set_ne hj] at q ⊢
      exact h.at_ j u q
/-- the slot forgets, or bears another tree at the same place -/
theorem RelS.keep (h : RelS σ τ) {i : Nat} {o : Option MA} (ho : ∀ t, o = some t → ∃ t', τ[i]? = some (some t') ∧ t'.val = t.val) : RelS σ (τ.set i o) where
  len := by rw [List.length_set]; exact h.len
  at_ := fun j u q => by
    by_cases hj : i = j
    · subst hj
      by_cases hl : i < τ.length
      · rw [List.getElem?_set_self hl] at q
        obtain ⟨t', h1, h2⟩ := ho u (Option.some.inj q)
        rw [← h2]; exact h.at_ i t' h1
      · rw [List.getElem?_eq_none (by simpa using hl)] at q; cases q
    · rw [List.getElem?_set_ne hj] at q
      exact h.at_ j u q
theorem lt_of_some {α : Type} {l : List α} {i : Nat} {x : α} (h : l[i]? = some x) : i < l.length := by
  by_cases hl : i < l.length
  · exact hl
  · rw [List.getElem?_eq_none (by simpa using hl)] at h; cases h
/-- a container inside a slot is changed in place: s by s', whose own cells are told -/
theorem St.change (h : St K ct B F σ τ H) {i : Nat} {p : List Nat} {t s s' : MA} (ht : τ[i]? = some (some t)) (hs : t.sub p = some s) (hv : s'.val = s.val)
    (hw : ∀ G, Wf B (s.cells ++ G) H → Wf B' (s'.cells ++ G) H') (sb : Same B B') (ok' : s'.ok K ct B') : St K ct B' F σ (τ.set i (some (t.put p s'))) H' := by
  obtain ⟨R, h1, h2⟩ := cellsE_set ht
  obtain ⟨R', k1, k2⟩ := put_cells hs
  refine ⟨?_, ?_, ?_⟩
  · have w := h.wf.perm ((List.Perm.append_right F (h1.trans (List.Perm.append_right R k1))).trans (by simp only [List.append_assoc]; exact List.Perm.refl _) : (cellsE τ ++ F).Perm (s.cells ++ (R' ++ (R ++ F))))
    have w' := hw _ w
    refine w'.perm ?_
    refine ((List.Perm.append_right F ((h2 (some (t.put p s'))).trans (List.Perm.append_right R (k2 s' hv)))).trans ?_).symm
    simp only [List.append_assoc]; exact List.Perm.refl _
  · exact (h.ok.mono sb).set fun u e => by
      cases e
      exact ok_put hs ((h.ok i t ht).mono sb) ok'
  · exact h.rel.keep fun u e => by
      cases e
      exact ⟨t, ht, (put_val hs hv).symm⟩
/-- .. and is given to all -/
theorem St.give (h : St K ct B F σ τ H) {i : Nat} {p : List Nat} {t s : MA} (ht : τ[i]? = some (some t)) (hs : t.sub p = some s) :
    ∃ B', St K ct B' F σ (τ.set i (some (t.put p (.d s.er.fz s.val)))) H ∧ Same B B' ∧ RepD K ct B' s.er.fz s.val := by
  have hc : (∀ c ∈ s.cells, updL B s.cells c.1 = some c.2) ∧ Same B (updL B s.cells) := by
    obtain ⟨R, h1, _⟩ := cellsE_set ht
    obtain ⟨R', k1, _⟩ := put_cells hs
    have w := h.wf.perm ((List.Perm.append_right F (h1.trans (List.Perm.append_right R k1))).trans (by simp only [List.append_assoc]; exact List.Perm.refl _) : (cellsE τ ++ F).Perm (s.cells ++ (R' ++ (R ++ F))))
    obtain ⟨_, q2, q3⟩ := Wf.give w
    exact ⟨q3, q2⟩
  have hr : RepD K ct (updL B s.cells) s.er.fz s.val := frozen hc.1 ((ok_sub hs (h.ok i t ht)).mono hc.2)
  refine ⟨updL B s.cells, h.change ht hs rfl (fun G w => ?_) hc.2 ?_, hc.2, hr⟩
  · simp only [MA.cells, List.nil_append]
    exact (Wf.give w).1
  · unfold MA.ok; exact hr
theorem updL_app : ∀ (a b : List Cell) (B : Hp), updL B (a ++ b) = updL (updL B a) b
  | [], _, _ => rfl
  | c :: a, b, B => by simp only [List.cons_append, updL]; exact updL_app a b _
/-- a temporary tree is given to all -/
theorem give_tmp {t : MA} {cs : List Cell} (w : Wf B (t.cells ++ cs) H) (ok : t.ok K ct B) : ∃ B', Wf B' cs H ∧ Same B B' ∧ RepD K ct B' t.er.fz t.val := by
  obtain ⟨q1, q2, q3⟩ := Wf.give w
  exact ⟨_, q1, q2, frozen q3 (ok.mono q2)⟩
theorem gives_tmp {ts : List MA} {cs : List Cell} (w : Wf B (MA.cellsL ts ++ cs) H) (ok : MA.oks K ct B ts) : ∃ B', Wf B' cs H ∧ Same B B' ∧ RepDs K ct B' (M.fzs (MA.ers ts)) (ts.map MA.val) := by
  obtain ⟨q1, q2, q3⟩ := Wf.give w
  exact ⟨_, q1, q2, frozens q3 (ok.mono q2)⟩
end
end Ev
set_option Elab.async false
set_option linter.all false
set_option maxRecDepth 100000
set_option maxHeartbeats 1000000
/-! The readings of looks, pure expressions, expressions: each from the hand layer's. -/
namespace Ev
open PySem PySem.Spec PyProof.Rows
open L2 (V HO Hp SqL SqT Same upd upd_same upd_ne Cx PE PT PA)

theorem PEw {X : Cx} {e : Expr} {t t' : L2.TE} (h : PE X e t) (w : ∀ σ H Q, t' σ H Q → t σ H Q) : PE X e t' :=
  ⟨fun pins s σ H Q I q => h.run pins s σ H Q I (w _ _ _ q)⟩
theorem PTw {X : Cx} {e : Expr} {t t' : L2.TT} (h : PT X e t) (w : ∀ σ H Q, t' σ H Q → t σ H Q) : PT X e t' :=
  ⟨fun pins s σ H Q I q => h.run pins s σ H Q I (w _ _ _ q)⟩
theorem PAw {X : Cx} {es : List Expr} {t t' : L2.TA} (h : PA X es t) (w : ∀ σ H Q, t' σ H Q → t σ H Q) : PA X es t' :=
  ⟨fun pos pins s σ H Q I q => h.run pos pins s σ H Q I (w _ _ _ q)⟩

section
variable (K : PySem.W.Frag) (ct : Str → Option Addr)
def PVr (B : Hp) (τ : TE0) : PV → V → Prop
  | .val x, v => RepD K ct B x v
  | .at i p, v => ∃ t s, τ[i]? = some (some t) ∧ t.sub p = some s ∧ s.val = v
def TKf (f : SK) : L2.TE := fun σ H Q => ∃ B F τ, St K ct B F σ τ H ∧ ∃ pv, f (erE τ) = some pv ∧ ∀ v, PVr K ct B τ pv v → Q v H
def TPf (f : SP) : L2.TE := fun σ H Q => ∃ B F τ, St K ct B F σ τ H ∧ ∃ x, f (erE τ) = some x ∧ ∀ v, RepD K ct B x v → Q v H
/-- behind an expression: a tree that nobody has yet, the slots' trees, the shared part grown -/
structure Aft (B : Hp) (F : List Cell) (σ : L2.St) (m : M) (e : Env) (v : V) (H' B' : Hp) (t : MA) (τ' : TE0) : Prop where
  st : St K ct B' (t.cells ++ F) σ τ' H'
  ok : t.ok K ct B'
  sb : Same B B'
  ee : erE τ' = e
  em : t.er = m
  ev : t.val = v
def TEf (f : SE) : L2.TE := fun σ H Q => ∃ B F τ, St K ct B F σ τ H ∧ ∃ m e', f (erE τ) = some (m, e') ∧ ∀ v H' B' t τ', Aft K ct B F σ m e' v H' B' t τ' → Q v H'
structure AftT (B : Hp) (F : List Cell) (σ : L2.St) (e : Env) (H' B' : Hp) (τ' : TE0) : Prop where
  st : St K ct B' F σ τ' H'
  sb : Same B B'
  ee : erE τ' = e
def TTf (f : ST) : L2.TT := fun σ H Q => ∃ B F τ, St K ct B F σ τ H ∧ ∃ b e', f (erE τ) = some (b, e') ∧ ∀ H' B' τ', AftT K ct B F σ e' H' B' τ' → Q b H'
structure AftL (B : Hp) (F : List Cell) (σ : L2.St) (ms : List M) (e : Env) (vs : List V) (H' B' : Hp) (ts : List MA) (τ' : TE0) : Prop where
  st : St K ct B' (MA.cellsL ts ++ F) σ τ' H'
  ok : MA.oks K ct B' ts
  sb : Same B B'
  ee : erE τ' = e
  em : MA.ers ts = ms
  ev : ts.map MA.val = vs
def TAf (cs : List SE) : L2.TA := fun σ H Q => ∃ B F τ, St K ct B F σ τ H ∧ ∃ ms e', evL cs (erE τ) = some (ms, e') ∧ ∀ vs H' B' ts τ', AftL K ct B F σ ms e' vs H' B' ts τ' → Q vs H'
/-- what a built-in hands back -/
def NewM (B H : Hp) : M → V → Hp → Prop
  | .d x, v, H' => (H' = H ∧ RepD K ct B x v) ∨ ∃ p ds vs its, x = .tup ds ∧ v = .ref p ∧ H p = none ∧ H' = upd H p (HOt its vs) ∧ RepDs K ct B ds vs
  | .lst ms, v, H' => ∃ p ds vs, ms = ds.map .d ∧ v = .ref p ∧ H p = none ∧ H' = upd H p (.lst vs) ∧ RepDs K ct B ds vs
  | .obj _ _ _, _, _ => False
end

section
variable {K : PySem.W.Frag} {ct : Str → Option Addr} {B B' H H' : Hp} {F : List Cell} {σ : L2.St} {τ : TE0}

theorem St.mono_cells {cs : List Cell} (h : St K ct B F σ τ H) (w : Wf B' cs H') (e : (cellsE τ ++ F).Perm cs) (sb : Same B B') : St K ct B' F σ τ H' :=
  ⟨w.perm e.symm, h.ok.mono sb, h.rel⟩
theorem St.front {cs : List Cell} (h : St K ct B (cs ++ F) σ τ H) : Wf B (cs ++ (cellsE τ ++ F)) H :=
  h.wf.perm (by rw [← List.append_assoc, ← List.append_assoc]; exact List.Perm.append_right _ List.perm_append_comm)
theorem St.ofFront {cs : List Cell} (w : Wf B (cs ++ (cellsE τ ++ F)) H) (ok : OkE K ct B τ) (rel : RelS σ τ) : St K ct B (cs ++ F) σ τ H :=
  ⟨w.perm (by rw [← List.append_assoc, ← List.append_assoc]; exact List.Perm.append_right _ List.perm_append_comm), ok, rel⟩
/-- shared data handed back -/
theorem aft_d {m0 : D} {v : V} (h : St K ct B F σ τ H) (r : RepD K ct B m0 v) : Aft K ct B F σ (.d m0) (erE τ) v H B (.d m0 v) τ :=
  ⟨by simpa [MA.cells] using h, by unfold MA.ok; exact r, Same.refl _, rfl, by simp [MA.er], rfl⟩
theorem ers_d : ∀ {ds : List D} {vs : List V}, ds.length = vs.length → MA.ers ((ds.zip vs).map fun p => MA.d p.1 p.2) = ds.map M.d
  | [], [], _ => by simp [MA.ers]
  | d :: ds, v :: vs, h => by simp [MA.ers, MA.er, ers_d (ds := ds) (vs := vs) (by simpa using h)]
  | [], _ :: _, h => by simp at h
  | _ :: _, [], h => by simp at h
theorem vals_d : ∀ {ds : List D} {vs : List V}, ds.length = vs.length → ((ds.zip vs).map fun p => MA.d p.1 p.2).map MA.val = vs
  | [], [], _ => rfl
  | d :: ds, v :: vs, h => by
    rw [List.zip_cons_cons, List.map_cons, List.map_cons, vals_d (ds := ds) (vs := vs) (by simpa using h)]
    rfl
  | [], _ :: _, h => by simp at h
  | _ :: _, [], h => by simp at h
theorem cells_d : ∀ {ds : List D} {vs : List V}, MA.cellsL ((ds.zip vs).map fun p => MA.d p.1 p.2) = []
  | [], _ => by simp [MA.cellsL]
  | _ :: _, [] => by simp [MA.cellsL]
  | d :: ds, v :: vs => by simp [MA.cellsL, MA.cells]; exact cells_d (ds := ds) (vs := vs)
theorem oks_d : ∀ {ds : List D} {vs : List V}, RepDs K ct B ds vs → MA.oks K ct B ((ds.zip vs).map fun p => MA.d p.1 p.2)
  | [], _, _ => by simp; unfold MA.oks; trivial
  | d :: ds, vs, h => by
    unfold RepDs at h
    obtain ⟨v, r, e, h1, h2⟩ := h
    subst e
    simp
    unfold MA.oks
    exact ⟨by unfold MA.ok; exact h1, by simpa using oks_d h2⟩
theorem repT {a : Addr} {ds : List D} {vs : List V} {its : List Value} (h : B a = some (HOt its vs)) (r : RepDs K ct B ds vs) : RepD K ct B (.tup ds) (.ref a) := by
  unfold RepD; exact ⟨a, vs, rfl, .inl ⟨its, h⟩, r⟩
theorem repL {a : Addr} {ds : List D} {vs : List V} (h : B a = some (.lst vs)) (r : RepDs K ct B ds vs) : RepD K ct B (.lst ds) (.ref a) := by
  unfold RepD; exact ⟨a, vs, rfl, h, r⟩
/-- a built-in's answer as a tree -/
theorem aft_new {m : M} {v : V} (h : St K ct B F σ τ H) (n : NewM K ct B H m v H') : ∃ B' t, Aft K ct B F σ m (erE τ) v H' B' t τ := by
  cases m with
  | d x =>
    rcases n with ⟨e, r⟩ | ⟨p, ds, vs, its, e1, e2, hp, e3, r⟩
    · subst e
      exact ⟨B, _, aft_d h r⟩
    · subst e1 e2 e3
      have sb : Same B (upd B p (HOt its vs)) := same_upd (h.wf.free hp)
      have h' : St K ct (upd B p (HOt its vs)) F σ τ (upd H p (HOt its vs)) := ⟨h.wf.shared hp, h.ok.mono sb, h.rel⟩
      obtain ⟨st, ok, _, ee, em, ev⟩ := aft_d h' (repT (upd_same) (r.mono sb))
      exact ⟨_, _, ⟨st, ok, sb, ee, em, ev⟩⟩
  | lst ms =>
    obtain ⟨p, ds, vs, e1, e2, hp, e3, r⟩ := n
    subst e1 e2 e3
    have hl := r.length
    refine ⟨B, .lst p ((ds.zip vs).map fun q => MA.d q.1 q.2), ⟨?_, ?_, Same.refl _, rfl, ?_, rfl⟩⟩
    · refine St.ofFront ?_ h.ok h.rel
      simp only [MA.cells, cells_d, vals_d hl]
      exact h.wf.owned hp
    · unfold MA.ok; exact oks_d r
    · simp only [MA.er, ers_d hl]
  | obj c ns ms => exact n.elim
/-- the answer's tree given to all -/
theorem Aft.give {m : M} {e : Env} {v : V} {t : MA} {τ' : TE0} (a : Aft K ct B F σ m e v H' B' t τ') : ∃ B2, St K ct B2 F σ τ' H' ∧ Same B B2 ∧ Same B' B2 ∧ erE τ' = e ∧ RepD K ct B2 m.fz v := by
  obtain ⟨B2, w, sb, r⟩ := give_tmp a.st.front a.ok
  refine ⟨B2, ⟨w, a.st.ok.mono sb, a.st.rel⟩, a.sb.trans sb, sb, a.ee, ?_⟩
  rw [← a.em, ← a.ev]; exact r
/-- the answer's tree dropped -/
theorem Aft.drop {m : M} {e : Env} {v : V} {t : MA} {τ' : TE0} (a : Aft K ct B F σ m e v H' B' t τ') : AftT K ct B F σ e H' B' τ' :=
  ⟨⟨a.st.front.drop, a.st.ok, a.st.rel⟩, a.sb, a.ee⟩
theorem AftL.give {ms : List M} {e : Env} {vs : List V} {ts : List MA} {τ' : TE0} (a : AftL K ct B F σ ms e vs H' B' ts τ') : ∃ B2, St K ct B2 F σ τ' H' ∧ Same B B2 ∧ Same B' B2 ∧ erE τ' = e ∧ RepDs K ct B2 (M.fzs ms) vs := by
  obtain ⟨B2, w, sb, r⟩ := gives_tmp a.st.front a.ok
  refine ⟨B2, ⟨w, a.st.ok.mono sb, a.st.rel⟩, a.sb.trans sb, sb, a.ee, ?_⟩
  rw [← a.em, ← a.ev]; exact r
/-- the rest of an expression behind a part of it: from a state that is reached on -/
theorem Aft.of {B1 : Hp} {m : M} {e : Env} {v : V} {t : MA} {τ' : TE0} (s1 : Same B B1) (a : Aft K ct B1 F σ m e v H' B' t τ') : Aft K ct B F σ m e v H' B' t τ' :=
  ⟨a.st, a.ok, s1.trans a.sb, a.ee, a.em, a.ev⟩
theorem AftT.of {B1 : Hp} {e : Env} {τ' : TE0} (s1 : Same B B1) (a : AftT K ct B1 F σ e H' B' τ') : AftT K ct B F σ e H' B' τ' :=
  ⟨a.st, s1.trans a.sb, a.ee⟩

/-! ### looks -/
theorem fIx_lookup : ∀ {ns : List Str} {f : Str} {j : Nat} {vs : List V} {v : V}, fIx ns f = some j → vs[j]? = some v → (ns.zip vs).lookup f = some v
  | [], _, _, _, _, h, _ => by simp [fIx] at h
  | n :: ns, f, j, [], v, h, hv => by simp at hv
  | n :: ns, f, j, w :: vs, v, h, hv => by
    unfold fIx at h
    rw [List.findIdx?_cons] at h
    rw [List.zip_cons_cons, List.lookup_cons]
    by_cases e : n = f
    · subst e
      simp at h
      subst h
      simp at hv
      simp [hv]
    · have e1 : (n == f) = false := by simpa using e
      have e2 : (f == n) = false := by simpa using fun z => e z.symm
      rw [e1] at h
      simp only [Bool.false_eq_true, if_false, Option.map_eq_some_iff] at h
      obtain ⟨k, hk, rfl⟩ := h
      rw [e2]
      exact fIx_lookup (ns := ns) (f := f) (j := k) hk (by simpa using hv)
theorem k_var {i : Nat} {Q : L2.VK} (h : TKf K ct (kVar i) σ H Q) : L2.tVar i σ H Q := by
  obtain ⟨B, F, τ, st, pv, e, q⟩ := h
  unfold kVar at e
  cases hs : (erE τ).slot i with
  | none => simp [hs] at e
  | some m =>
    obtain ⟨t, h1, h2⟩ := erE_slot hs
    refine ⟨t.val, st.rel.at_ i t h1, q _ ?_⟩
    rw [hs] at e
    cases m with
    | d x =>
      simp at e; subst e
      show RepD K ct B x t.val
      have o := st.ok i t h1
      cases t with
      | d y v => simp [MA.er] at h2; subst h2; unfold MA.ok at o; exact o
      | lst _ _ => simp [MA.er] at h2
      | obj _ _ _ _ _ _ => simp [MA.er] at h2
    | lst _ => simp at e; subst e; exact ⟨t, t, h1, rfl, rfl⟩
    | obj _ _ _ => simp at e; subst e; exact ⟨t, t, h1, rfl, rfl⟩
theorem sub_app : ∀ {p : List Nat} {t s : MA} {j : Nat}, t.sub p = some s → t.sub (p ++ [j]) = s.kids[j]?
  | [], t, s, j, h => by
    have e : t = s := by simpa [MA.sub] using h
    subst e
    simp only [List.nil_append]
    unfold MA.sub
    cases e : t.kids[j]? <;> simp [MA.sub]
  | i :: p, t, s, j, h => by
    unfold MA.sub at h
    simp only [List.cons_append]
    rw [show t.sub (i :: (p ++ [j])) = (match t.kids[i]? with | some x => MA.sub x (p ++ [j]) | none => none) from rfl]
    cases e : t.kids[i]? with
    | none => simp [e] at h
    | some x => rw [e] at h; exact sub_app (p := p) (t := x) h
/-- a child of a looked-at container -/
theorem kid_ok {i j : Nat} {p : List Nat} {t s u : MA} {pv : PV} (st : St K ct B F σ τ H) (ht : τ[i]? = some (some t)) (hs : t.sub p = some s) (hu : s.kids[j]? = some u) (e : kKid (erE τ) i p j = some pv) : PVr K ct B τ pv u.val := by
  have hu' : t.sub (p ++ [j]) = some u := (sub_app hs).trans hu
  unfold kKid at e
  rw [at_erE ht hu'] at e
  cases u with
  | d y v =>
    simp [MA.er] at e; subst e
    have o := ok_sub hu' (st.ok i t ht)
    unfold MA.ok at o; exact o
  | lst _ _ => simp [MA.er] at e; subst e; exact ⟨t, _, ht, hu', rfl⟩
  | obj _ _ _ _ _ _ => simp [MA.er] at e; subst e; exact ⟨t, _, ht, hu', rfl⟩
theorem cell_of {i : Nat} {p : List Nat} {t s : MA} (st : St K ct B F σ τ H) (ht : τ[i]? = some (some t)) (hs : t.sub p = some s) : ∀ c ∈ s.cells, H c.1 = some c.2 := fun c hc => by
  obtain ⟨R, h1, _⟩ := cellsE_set ht
  obtain ⟨R', k1, _⟩ := put_cells hs
  exact (st.wf.own c (List.mem_append_left _ (h1.symm.subset (List.mem_append_left _ (k1.symm.subset (List.mem_append_left _ hc)))))).1
theorem k_fld {k : SK} {f : Str} {Q : L2.VK} (h : TKf K ct (kFld k f) σ H Q) : L2.tFld K (TKf K ct k) f σ H Q := by
  obtain ⟨B, F, τ, st, pv, e, q⟩ := h
  unfold kFld at e
  cases hk : k (erE τ) with
  | none => simp [hk] at e
  | some w =>
    refine ⟨B, F, τ, st, w, hk, fun v hv => ?_⟩
    rw [hk] at e
    cases w with
    | val x =>
      cases x with
      | obj c ns xs =>
        simp only at e
        unfold PVr RepD at hv
        obtain ⟨a, C, dx, vs, rfl, oc, hB, hl, hr⟩ := hv
        cases hj : fIx ns f with
        | none => simp [hj] at e
        | some j =>
          rw [hj] at e
          cases hx : xs[j]? with
          | none => simp [hx] at e
          | some y =>
            simp [hx] at e; subst e
            obtain ⟨u, hu, ru⟩ := hr.get hx
            have hf : f ∈ ns := by
              unfold fIx at hj
              have hlt : j < ns.length := by rw [hl]; exact lt_of_some hx
              have := (List.findIdx?_eq_some_iff_getElem.mp hj)
              obtain ⟨h1, h2, _⟩ := this
              have e2 : ns[j] = f := by simpa using h2
              rw [← e2]; exact List.getElem_mem _
            exact ⟨a, C, dx, ns.zip vs, u, rfl, st.wf.sub _ _ hB, oc.cls, oc.na f hf, fIx_lookup hj hu, q u ru⟩
      | _ => simp at e
    | «at» i p =>
      simp only at e
      obtain ⟨t, s, ht, hs, hv⟩ := hv
      rw [at_erE ht hs] at e
      cases s with
      | d y u =>
        exfalso
        have o := ok_sub hs (st.ok i t ht)
        cases y with
        | obj c ns xs =>
          simp only [MA.er] at e
          simp at e
        | _ => simp [MA.er] at e
      | lst a ts => simp [MA.er] at e
      | obj c C dx a ns ts =>
        simp only [MA.er] at e
        have o := ok_sub hs (st.ok i t ht)
        unfold MA.ok at o
        cases hj : fIx ns f with
        | none => simp [hj] at e
        | some j =>
          rw [hj] at e
          have hjl : j < ns.length ∧ ns[j]? = some f := by
            unfold fIx at hj
            obtain ⟨h1, h2, _⟩ := List.findIdx?_eq_some_iff_getElem.mp hj
            have e2 : ns[j] = f := by simpa using h2
            exact ⟨h1, by rw [List.getElem?_eq_getElem h1, e2]⟩
          have hu : ts[j]? = some (ts[j]'(by rw [← o.2.1]; exact hjl.1)) := List.getElem?_eq_getElem _
          have hv2 : V.ref a = v := hv
          subst hv2
          refine ⟨a, C, dx, ns.zip (ts.map MA.val), _, rfl, cell_of st ht hs (a, _) (by simp [MA.cells]), o.1.cls, o.1.na f (List.mem_of_getElem? hjl.2), fIx_lookup hj (by rw [List.getElem?_map, hu]; rfl), q _ ?_⟩
          exact kid_ok st ht hs (by simp only [MA.kids]; exact hu) e
theorem k_idx {k : SK} {qi : SP} {Q : L2.VK} (h : TKf K ct (kIdx k qi) σ H Q) : L2.tOp (fun x y H Q => L2.rIxL K x y H Q ∨ L2.rIxT K x y H Q) (TKf K ct k) (TPf K ct qi) σ H Q := by
  obtain ⟨B, F, τ, st, pv, e, q⟩ := h
  unfold kIdx at e
  cases hk : k (erE τ) with
  | none => simp [hk] at e
  | some w =>
    refine ⟨B, F, τ, st, w, hk, fun v hv => ?_⟩
    rw [hk] at e
    cases w with
    | val x =>
      simp only at e
      cases hq : qi (erE τ) with
      | none => simp [hq] at e
      | some y =>
        rw [hq] at e
        refine ⟨B, F, τ, st, y, hq, fun u hu => ?_⟩
        cases y with
        | int n =>
          simp only at e
          unfold RepD at hu; subst hu
          cases x with
          | tup xs =>
            unfold PVr RepD at hv
            obtain ⟨a, vs, rfl, hs, hr⟩ := hv
            simp only [D.ix] at e
            cases hx : L2.atI xs n with
            | none => simp [hx] at e
            | some y =>
              simp [hx] at e; subst e
              unfold L2.atI at hx
              rw [hr.length] at hx
              cases hj : L2.ixN vs.length n with
              | none => simp [hj] at hx
              | some j =>
                rw [hj] at hx
                obtain ⟨u, hu, ru⟩ := hr.get (show xs[j]? = some y from hx)
                exact .inr ⟨a, vs, n, u, rfl, rfl, (hs.mono st.wf.sub).sq, by unfold L2.atI; rw [hj]; exact hu, q u ru⟩
          | lst xs =>
            unfold PVr RepD at hv
            obtain ⟨a, vs, rfl, hs, hr⟩ := hv
            simp only [D.ix] at e
            cases hx : L2.atI xs n with
            | none => simp [hx] at e
            | some y =>
              simp [hx] at e; subst e
              unfold L2.atI at hx
              rw [hr.length] at hx
              cases hj : L2.ixN vs.length n with
              | none => simp [hj] at hx
              | some j =>
                rw [hj] at hx
                obtain ⟨u, hu, ru⟩ := hr.get (show xs[j]? = some y from hx)
                exact .inl ⟨a, vs, n, u, rfl, rfl, SqL.of (st.wf.sub _ _ hs), by unfold L2.atI; rw [hj]; exact hu, q u ru⟩
          | frl xs =>
            unfold PVr RepD at hv
            obtain ⟨a, vs, rfl, hs, hr⟩ := hv
            simp only [D.ix] at e
            cases hx : L2.atI xs n with
            | none => simp [hx] at e
            | some y =>
              simp [hx] at e; subst e
              unfold L2.atI at hx
              rw [hr.length] at hx
              cases hj : L2.ixN vs.length n with
              | none => simp [hj] at hx
              | some j =>
                rw [hj] at hx
                obtain ⟨u, hu, ru⟩ := hr.get (show xs[j]? = some y from hx)
                exact .inl ⟨a, vs, n, u, rfl, rfl, st.wf.sub.seq hs, by unfold L2.atI; rw [hj]; exact hu, q u ru⟩
          | _ => simp [D.ix] at e
        | _ => simp at e
    | «at» i p =>
      simp only at e
      obtain ⟨t, s, ht, hs, hv⟩ := hv
      rw [at_erE ht hs] at e
      cases s with
      | d y u => simp [MA.er] at e
      | obj c C dx a ns ts => simp [MA.er] at e
      | lst a ts =>
        simp only [MA.er] at e
        cases hq : qi (erE τ) with
        | none => simp [hq] at e
        | some y =>
          rw [hq] at e
          refine ⟨B, F, τ, st, y, hq, fun u hu => ?_⟩
          cases y with
          | int n =>
            simp only at e
            unfold RepD at hu; subst hu
            have hv2 : V.ref a = v := hv
            subst hv2
            rw [ers_map, List.length_map] at e
            cases hj : L2.ixN ts.length n with
            | none => simp [hj] at e
            | some j =>
              rw [hj] at e
              have hjl := (L2.ixN_seq hj).2.1
              have hu : ts[j]? = some ts[j] := List.getElem?_eq_getElem hjl
              refine .inl ⟨a, ts.map MA.val, n, ts[j].val, rfl, rfl, .inl (.inl (cell_of st ht hs (a, _) (by simp [MA.cells]))), ?_, q _ ?_⟩
              · unfold L2.atI
                rw [List.length_map, hj]
                show (ts.map MA.val)[j]? = _
                rw [List.getElem?_map, hu]; rfl
              · exact kid_ok st ht hs (by simp only [MA.kids]; exact hu) e
          | _ => simp at e
theorem p_of {k : SK} {Q : L2.VK} (h : TPf K ct (pOf k) σ H Q) : TKf K ct k σ H Q := by
  obtain ⟨B, F, τ, st, x, e, q⟩ := h
  unfold pOf at e
  cases hk : k (erE τ) with
  | none => simp [hk] at e
  | some w =>
    rw [hk] at e
    cases w with
    | val y => simp at e; subst e; exact ⟨B, F, τ, st, _, hk, fun v hv => q v hv⟩
    | «at» i p => simp at e
/-- an expression that is pure -/
theorem e_pure {qp : SP} {Q : L2.VK} (h : TEf K ct (cP qp) σ H Q) : TPf K ct qp σ H Q := by
  obtain ⟨B, F, τ, st, m, e', e, q⟩ := h
  unfold cP at e
  cases hk : qp (erE τ) with
  | none => simp [hk] at e
  | some x =>
    simp [hk] at e
    obtain ⟨rfl, rfl⟩ := e
    exact ⟨B, F, τ, st, x, hk, fun v hv => q v H B _ τ (aft_d st hv)⟩
/-- a look as a value -/
theorem e_look {k : SK} {Q : L2.VK} (h : TEf K ct (cK k) σ H Q) : TKf K ct k σ H Q := by
  obtain ⟨B, F, τ, st, m, e', e, q⟩ := h
  unfold cK at e
  cases hk : k (erE τ) with
  | none => simp [hk] at e
  | some w =>
    rw [hk] at e
    cases w with
    | val x =>
      simp at e
      obtain ⟨rfl, rfl⟩ := e
      exact ⟨B, F, τ, st, _, hk, fun v hv => q v H B _ τ (aft_d st hv)⟩
    | «at» i p =>
      simp only at e
      refine ⟨B, F, τ, st, _, hk, fun v hv => ?_⟩
      obtain ⟨t, s, ht, hs, hv⟩ := hv
      rw [at_erE ht hs] at e
      simp at e
      obtain ⟨rfl, rfl⟩ := e
      obtain ⟨B', st', sb, r⟩ := st.give ht hs
      obtain ⟨a1, a2, a3, a4, a5, a6⟩ := aft_d st' r
      refine q v H B' _ _ ⟨a1, a2, sb, ?_, a5, hv ▸ a6⟩
      have := putAt_erE (s' := .d s.er.fz s.val) ht hs
      simp only [MA.er] at this
      exact this.symm
end
end Ev
set_option Elab.async false
set_option linter.all false
set_option maxRecDepth 100000
set_option maxHeartbeats 1000000
/-! Operators and built-in functions, by values. -/
namespace Ev
open PySem PySem.Spec PyProof.Rows
open L2 (V HO Hp SqL SqT Same upd upd_same upd_ne Cx PE PT PA OpR CallR Inv RelV Vals VK)

section
variable (K : PySem.W.Frag) (ct : Str → Option Addr)
/-- data that may be read: shared, or a container of shared data that somebody owns -/
def RdD (B H : Hp) (d : D) (v : V) : Prop := RepD K ct B d v ∨ ∃ a xs ds, d = .lst ds ∧ v = .ref a ∧ H a = some (.lst xs) ∧ RepDs K ct B ds xs
def RdDs (B H : Hp) : List D → List V → Prop
  | [], vs => vs = []
  | d :: ds, vs => ∃ v r, vs = v :: r ∧ RdD K ct B H d v ∧ RdDs B H ds r
end
section
variable {K : PySem.W.Frag} {ct : Str → Option Addr} {B H : Hp}
theorem RepDs.rd : ∀ {ds : List D} {vs : List V}, RepDs K ct B ds vs → RdDs K ct B H ds vs
  | [], _, h => by unfold RepDs at h; exact h
  | d :: ds, vs, h => by
    unfold RepDs at h
    obtain ⟨v, r, e, h1, h2⟩ := h
    exact ⟨v, r, e, .inl h1, RepDs.rd h2⟩
theorem rd_one {d : D} {v : V} (h : RdD K ct B H d v) : RdDs K ct B H [d] [v] := ⟨v, [], rfl, h, rfl⟩
theorem rd_un {d : D} {vs : List V} (h : RdDs K ct B H [d] vs) : ∃ v, vs = [v] ∧ RdD K ct B H d v := by
  obtain ⟨v, r, e, h1, h2⟩ := h
  have h2 : r = [] := h2
  subst h2
  exact ⟨v, e, h1⟩
theorem rd_items {d : D} {v : V} {ds : List D} (sb : Same B H) (h : RdD K ct B H d v) (e : d.items = some ds) : ∃ a vs, v = .ref a ∧ RepDs K ct B ds vs ∧ (SqL K H a vs ∨ SqT K H a vs) := by
  rcases h with h | ⟨a, xs, es, rfl, rfl, hH, r⟩
  · cases d with
    | tup xs =>
      simp [D.items] at e; subst e
      unfold RepD at h
      obtain ⟨a, vs, e, h1, h2⟩ := h
      exact ⟨a, vs, e, h2, .inr (h1.mono sb).sq⟩
    | lst xs =>
      simp [D.items] at e; subst e
      unfold RepD at h
      obtain ⟨a, vs, e, h1, h2⟩ := h
      exact ⟨a, vs, e, h2, .inl (SqL.of (sb _ _ h1))⟩
    | frl xs =>
      simp [D.items] at e; subst e
      unfold RepD at h
      obtain ⟨a, vs, e, h1, h2⟩ := h
      exact ⟨a, vs, e, h2, .inl (sb.seq h1)⟩
    | _ => simp [D.items] at e
  · simp [D.items] at e; subst e
    exact ⟨a, xs, rfl, r, .inl (SqL.of hH)⟩
mutual
theorem repD_dp (sb : Same B H) : ∀ {d : D} {v : V} {p : PyData}, RepD K ct B d v → d.py = some p → L2.Dp K H v p
  | .non, v, p, h, e => by unfold RepD at h; simp [D.py] at e; subst h e; exact .non
  | .bl b, v, p, h, e => by unfold RepD at h; simp [D.py] at e; subst h e; exact .bl b
  | .int i, v, p, h, e => by unfold RepD at h; simp [D.py] at e; subst h e; exact .int i
  | .str x, v, p, h, e => by unfold RepD at h; simp [D.py] at e; subst h e; exact .str x
  | .tup xs, v, p, h, e => by
    unfold RepD at h
    obtain ⟨a, vs, rfl, h1, h2⟩ := h
    unfold D.py at e
    cases q : D.pys xs with
    | none => simp [q] at e
    | some ys => simp [q] at e; subst e; exact .tup (h1.mono sb).sq (repDs_dp sb h2 q)
  | .lst xs, v, p, h, e => by
    unfold RepD at h
    obtain ⟨a, vs, rfl, h1, h2⟩ := h
    unfold D.py at e
    cases q : D.pys xs with
    | none => simp [q] at e
    | some ys => simp [q] at e; subst e; exact .lst (SqL.of (sb _ _ h1)) (repDs_dp sb h2 q)
  | .obj _ _ _, v, p, h, e => by simp [D.py] at e
  | .frl _, v, p, h, e => by simp [D.py] at e
theorem repDs_dp (sb : Same B H) : ∀ {ds : List D} {vs : List V} {ps : List PyData}, RepDs K ct B ds vs → D.pys ds = some ps → L2.DpAll K H vs ps
  | [], vs, ps, h, e => by unfold RepDs at h; simp [D.pys] at e; subst h e; exact .nil
  | d :: ds, vs, ps, h, e => by
    unfold RepDs at h
    obtain ⟨v, r, rfl, h1, h2⟩ := h
    unfold D.pys at e
    cases q : d.py with
    | none => simp [q] at e
    | some y =>
      cases q2 : D.pys ds with
      | none => simp [q, q2] at e
      | some ys => simp [q, q2] at e; subst e; exact .cons (repD_dp sb h1 q) (repDs_dp sb h2 q2)
end
theorem rd_dp {d : D} {v : V} {p : PyData} (sb : Same B H) (h : RdD K ct B H d v) (e : d.py = some p) : L2.Dp K H v p := by
  rcases h with h | ⟨a, xs, es, rfl, rfl, hH, r⟩
  · exact repD_dp sb h e
  · unfold D.py at e
    cases q : D.pys es with
    | none => simp [q] at e
    | some ys => simp [q] at e; subst e; exact .lst (SqL.of hH) (repDs_dp sb r q)
theorem pys_len : ∀ {ds : List D} {ps : List PyData}, D.pys ds = some ps → ds.length = ps.length
  | [], ps, e => by simp [D.pys] at e; subst e; rfl
  | d :: ds, ps, e => by
    unfold D.pys at e
    cases q : d.py with
    | none => simp [q] at e
    | some y =>
      cases q2 : D.pys ds with
      | none => simp [q, q2] at e
      | some ys => simp [q, q2] at e; subst e; simp [pys_len q2]
theorem pys_get : ∀ {ds : List D} {ps : List PyData} {i : Nat} {p : PyData}, D.pys ds = some ps → ps[i]? = some p → ∃ d, ds[i]? = some d ∧ d.py = some p
  | [], ps, i, p, e, h => by simp [D.pys] at e; subst e; simp at h
  | d :: ds, ps, i, p, e, h => by
    unfold D.pys at e
    cases q : d.py with
    | none => simp [q] at e
    | some y =>
      cases q2 : D.pys ds with
      | none => simp [q, q2] at e
      | some ys =>
        simp [q, q2] at e; subst e
        cases i with
        | zero => simp at h; subst h; exact ⟨d, rfl, q⟩
        | succ i => obtain ⟨d', h1, h2⟩ := pys_get (i := i) q2 (by simpa using h); exact ⟨d', by simpa using h1, h2⟩
mutual
theorem ofPy_py : ∀ {d : D} {p : PyData}, d.py = some p → ofPy p = d
  | .non, p, e => by simp [D.py] at e; subst e; simp [ofPy]
  | .bl b, p, e => by simp [D.py] at e; subst e; simp [ofPy]
  | .int i, p, e => by simp [D.py] at e; subst e; simp [ofPy]
  | .str x, p, e => by simp [D.py] at e; subst e; simp [ofPy]
  | .tup xs, p, e => by
    unfold D.py at e
    cases q : D.pys xs with
    | none => simp [q] at e
    | some ys => simp [q] at e; subst e; simp [ofPy, ofPys_pys q]
  | .lst xs, p, e => by
    unfold D.py at e
    cases q : D.pys xs with
    | none => simp [q] at e
    | some ys => simp [q] at e; subst e; simp [ofPy, ofPys_pys q]
  | .obj _ _ _, p, e => by simp [D.py] at e
  | .frl _, p, e => by simp [D.py] at e
theorem ofPys_pys : ∀ {ds : List D} {ps : List PyData}, D.pys ds = some ps → ofPys ps = ds
  | [], ps, e => by simp [D.pys] at e; subst e; simp [ofPys]
  | d :: ds, ps, e => by
    unfold D.pys at e
    cases q : d.py with
    | none => simp [q] at e
    | some y =>
      cases q2 : D.pys ds with
      | none => simp [q, q2] at e
      | some ys => simp [q, q2] at e; subst e; simp [ofPys, ofPy_py q, ofPys_pys q2]
end
theorem asInts_map : ∀ {ds : List D} {is : List Int}, asInts ds = some is → ds = is.map .int
  | [], is, e => by simp [asInts] at e; subst e; rfl
  | .int i :: ds, is, e => by
    unfold asInts at e
    cases q : asInts ds with
    | none => simp [q] at e
    | some js => simp [q] at e; subst e; simp [asInts_map q]
  | .non :: _, _, e => by simp [asInts] at e
  | .bl _ :: _, _, e => by simp [asInts] at e
  | .str _ :: _, _, e => by simp [asInts] at e
  | .tup _ :: _, _, e => by simp [asInts] at e
  | .lst _ :: _, _, e => by simp [asInts] at e
  | .frl _ :: _, _, e => by simp [asInts] at e
  | .obj _ _ _ :: _, _, e => by simp [asInts] at e
theorem RepDs.ints_inv : ∀ {is : List Int} {vs : List V}, RepDs K ct B (is.map .int) vs → vs = is.map .int
  | [], _, h => by unfold RepDs at h; exact h
  | i :: is, vs, h => by
    unfold RepDs at h
    obtain ⟨v, r, e, h1, h2⟩ := h
    unfold RepD at h1
    subst e h1
    rw [RepDs.ints_inv h2]; rfl
/-- a list of new items -/
theorem new_lst {ds : List D} {vs : List V} {p : Addr} (r : RepDs K ct B ds vs) (hp : H p = none) : NewM K ct B H (.lst (ds.map .d)) (.ref p) (upd H p (.lst vs)) := ⟨p, ds, vs, rfl, rfl, hp, rfl, r⟩
theorem new_tup {ds : List D} {vs : List V} {p : Addr} {its : List Value} (r : RepDs K ct B ds vs) (hp : H p = none) : NewM K ct B H (.d (.tup ds)) (.ref p) (upd H p (HOt its vs)) := .inr ⟨p, ds, vs, its, rfl, rfl, hp, rfl, r⟩
theorem new_d {d : D} {v : V} (r : RepD K ct B d v) : NewM K ct B H (.d d) v H := .inl ⟨rfl, r⟩
theorem rep_int {i : Int} : RepD K ct B (.int i) (.int i) := by unfold RepD; rfl
theorem rep_bl {b : Bool} : RepD K ct B (.bl b) (.bl b) := by unfold RepD; rfl
theorem rep_non : RepD K ct B .non .non := by unfold RepD; rfl
end

section
variable {X : Cx} {ct : Str → Option Addr}
/-- an operator upon two shared data -/
def rOp (K : PySem.W.Frag) (ct : Str → Option Addr) (f : D → D → Option M) : L2.R2 := fun x y H Q => ∃ B a b m, Same B H ∧ RepD K ct B a x ∧ RepD K ct B b y ∧ f a b = some m ∧ ∀ v H', NewM K ct B H m v H' → Q v H'
theorem mulW {a b : Int} (h : MulOk a b) : L2.CMul a b ∨ L2.CMulW a b := by
  rcases h with h | h | ⟨h1, h2⟩
  · exact .inl (.inl (by omega))
  · exact .inl (.inr (by omega))
  · exact .inr (L2.wide_mul h1 h2 (by omega) (by omega) (by omega))
theorem opr_int (op : Operator) {pins : List (Addr × Obj)} {s : Shared} {σ : L2.St} {H : Hp} {i j k : Int} {t u : Tok} {Q : VK} (I : Inv X pins σ H s) (e : binI op i j = some k) (q : Q (.int k) H) :
    wpAny (model X.prog X.w) X.A (binaryOp op (.int i t) (.int j u)) (L2.EP X pins σ Q) X.xe s := by
  have ri : RelV (.int i) (.int i t) := ⟨t, rfl⟩
  have rj : RelV (.int j) (.int j u) := ⟨u, rfl⟩
  cases op with
  | Add => simp [binI] at e; subst e; exact L2.op_add pins s σ H _ _ _ _ Q I ri rj ⟨i, j, rfl, rfl, q⟩
  | Sub => simp [binI] at e; subst e; exact L2.op_sub pins s σ H _ _ _ _ Q I ri rj ⟨i, j, rfl, rfl, q⟩
  | Mult =>
    simp only [binI] at e
    split at e
    · rename_i h
      simp only [Option.some.injEq] at e; subst e
      rcases mulW h with h | h
      · exact L2.op_mul pins s σ H _ _ _ _ Q I ri rj ⟨i, j, rfl, rfl, h, q⟩
      · exact L2.op_mulW pins s σ H _ _ _ _ Q I ri rj ⟨i, j, rfl, rfl, h, q⟩
    · cases e
  | FloorDiv =>
    simp only [binI] at e
    split at e
    · rename_i h
      simp only [Option.some.injEq] at e; subst e
      exact L2.op_fdivW pins s σ H _ _ _ _ Q I ri rj ⟨i, j, rfl, rfl, L2.wide_div h.1 h.2 (by omega) (by omega), q⟩
    · cases e
  | Mod =>
    simp only [binI] at e
    split at e
    · rename_i h
      simp only [Option.some.injEq] at e; subst e
      exact L2.op_mod pins s σ H _ _ _ _ Q I ri rj ⟨i, j, rfl, rfl, h, q⟩
    · cases e
  | Pow =>
    simp only [binI] at e
    split at e
    · rename_i h
      simp only [Option.some.injEq] at e; subst e
      exact L2.op_pow pins s σ H _ _ _ _ Q I ri rj ⟨i, j, rfl, rfl, h, q⟩
    · cases e
  | LShift =>
    simp only [binI] at e
    split at e
    · rename_i h
      simp only [Option.some.injEq] at e; subst e
      exact L2.op_shl pins s σ H _ _ _ _ Q I ri rj ⟨i, j, rfl, rfl, h, q⟩
    · cases e
  | RShift =>
    simp only [binI] at e
    split at e
    · rename_i h
      simp only [Option.some.injEq] at e; subst e
      exact L2.op_shr pins s σ H _ _ _ _ Q I ri rj ⟨i, j, rfl, rfl, h, q⟩
    · cases e
  | BitAnd => simp [binI] at e; subst e; exact L2.op_and pins s σ H _ _ _ _ Q I ri rj ⟨i, j, rfl, rfl, q⟩
  | BitOr => simp [binI] at e; subst e; exact L2.op_or pins s σ H _ _ _ _ Q I ri rj ⟨i, j, rfl, rfl, q⟩
  | BitXor => simp [binI] at e; subst e; exact L2.op_xor pins s σ H _ _ _ _ Q I ri rj ⟨i, j, rfl, rfl, q⟩
  | MatMult => simp [binI] at e
  | Div => simp [binI] at e
theorem line_eq : sizeLine = line := by rw [sizeLine_eq]; rfl
/-- a new tuple laid -/
theorem tup_laid {pins : List (Addr × Obj)} {s : Shared} {σ : L2.St} {H : Hp} {vs : List V} {its : List Value} {t' : Nat} (I : Inv X pins σ H s) (r : Vals vs its) (hz : vs.length ≤ sizeLine) :
    Inv X pins σ (upd H s.heap.objs.size (HOt its vs)) { s with heap := s.heap.push (mkT its), toks := t' } :=
  I.laid (fun b u e => Heap.get?_push_of_some _ e) (Nat.le_refl _) ⟨Heap.get?_push_size _ rfl, hz, its, r, _, Heap.get?_push_size _ rfl, rfl, _, rfl⟩
theorem tup_cat {pins : List (Addr × Obj)} {s : Shared} {σ : L2.St} {H : Hp} {a b : Addr} {xs ys : List V} {Q : VK} (I : Inv X pins σ H s) (ha : SqT X.K H a xs) (hb : SqT X.K H b ys) (hz : xs.length + ys.length ≤ sizeLine)
    (q0 : xs = [] → Q (.ref b) H) (q1 : ys = [] → Q (.ref a) H) (q2 : ∀ p its, H p = none → Q (.ref p) (upd H p (HOt its (xs ++ ys)))) :
    wpAny (model X.prog X.w) X.A (binaryOp .Add (.ref a) (.ref b)) (L2.EP X pins σ Q) X.xe s := by
  obtain ⟨us, ru, pa, _⟩ := I.tuple ha
  obtain ⟨ws, rw', pb, _⟩ := I.tuple hb
  have lu := ru.length
  have lw := rw'.length
  by_cases hx : xs = []
  · have : us = [] := List.eq_nil_of_length_eq_zero (by rw [← lu, hx]; rfl)
    subst this
    exact L2.cat_tup0 pa pb ⟨.ref b, H, I, rfl, q0 hx⟩
  · refine HT.cat_tup pa pb (fun z => hx (List.eq_nil_of_length_eq_zero (by rw [lu, z]; rfl))) (fun z => ⟨.ref a, H, I, rfl, q1 (List.eq_nil_of_length_eq_zero (by rw [lw, z]; rfl))⟩) (fun _ => ?_) (by omega)
    exact ⟨V.ref s.heap.objs.size, _, tup_laid (t' := s.toks) I (ru.append rw') (by rw [List.length_append]; exact hz), rfl, q2 _ _ (I.hok.fresh (Nat.le_refl _))⟩
theorem tup_rep {pins : List (Addr × Obj)} {s : Shared} {σ : L2.St} {H : Hp} {l : Addr} {xs : List V} {k : Int} {t : Tok} {Q : VK} (I : Inv X pins σ H s) (hT : SqT X.K H l xs) (hne : xs ≠ []) (k1 : 2 ≤ k) (k2 : k ≤ 1000) (hz : xs.length ≤ 1000)
    (q : ∀ p its, H p = none → Q (.ref p) (upd H p (HOt its (List.replicate k.toNat xs).flatten))) : wpAny (model X.prog X.w) X.A (binaryOp .Mult (.ref l) (.int k t)) (L2.EP X pins σ Q) X.xe s := by
  obtain ⟨us, ru, ⟨⟨cls, dd, data, sl⟩, ho, hc, n, hd⟩, _⟩ := I.tuple hT
  simp only at hc hd
  subst hc hd
  have lu : us.length = xs.length := ru.length.symm
  have hem : us.toArray.isEmpty = false := by
    cases us with
    | nil => exact absurd (List.eq_nil_of_length_eq_zero lu.symm) hne
    | cons a b => rfl
  have hsize : us.toArray.size = xs.length := by rw [List.size_toArray, lu]
  have hprod : ((us.toArray.size : Nat) : Int) * k ≤ 1000000 := by
    rw [hsize]
    have := Int.mul_le_mul_of_nonneg_right (a := (xs.length : Int)) (b := 1000) (c := k) (by omega) (by omega)
    omega
  have hflat : (List.replicate k.toNat us).flatten.length ≤ 1000000 := by
    rw [PyProof.Rows.lm_len_rep_flat, lu]
    exact Nat.mul_le_mul (show k.toNat ≤ 1000 by omega) hz
  have hb0 : (decide (k < -(2 ^ 63)) || decide (k ≥ 2 ^ 63)) = false := by simp; omega
  have hb1 : (us.toArray.isEmpty || k == 1) = false := by rw [hem]; simp; omega
  have hb2 : (decide (k ≤ 0) || us.toArray.isEmpty) = false := by rw [hem]; simp; omega
  have hb4 : Builtin.Tuple.tupleTooMany (((us.toArray.size : Nat) : Int) * k) = false := by
    unfold Builtin.Tuple.tupleTooMany
    rw [sizeLine_eq]
    simp only [decide_eq_false_iff_not]
    omega
  have hs : sizeLine = 16777216 := sizeLine_eq
  refine wpAny_binaryOp_repeat_ref (T := "tuple") (U := "int") (by decide) ⟨_, ho, rfl⟩ (fun s' => typeIs_int s' k t) L2.noFill_tuple_mul F.fills_int_mul F.slot_int_rmul L2.repeat_tuple F.slot_int_index.lookup
    (call_meets F.slot_int_rmul (typeIs_int s k t) F.entry_int_rmul (F.args_int_rmul_2 _ _) (L2.int_rmul_tuple k t l us.toArray n dd sl)
      ⟨ho, rfl, ⟨_, ho, rfl⟩, call_meets F.slot_tuple_mul ⟨_, ho, rfl⟩ F.entry_tuple_mul (F.args_tuple_mul_2 _ _) (L2.tuple_mulW l us.toArray n dd sl k t hb0 hb1 hb2 (by omega) hb4 (by rw [L2.size_rep, List.size_toArray]; omega)) ⟨ho, ?_⟩⟩)
  rw [L2.size_rep]
  exact ⟨V.ref s.heap.objs.size, _, tup_laid (t' := s.toks) I (ru.rep k.toNat) (by rw [← (ru.rep k.toNat).length] at hflat; omega), rfl, q _ _ (I.hok.fresh (Nat.le_refl _))⟩
theorem opr_bin (op : Operator) : OpR X (binaryOp op) (rOp X.K ct (binV op)) := by
  intro pins s σ H x y v u Q I rx ry h
  obtain ⟨B, a, b, m, sb, ha, hb, e, q⟩ := h
  unfold binV at e
  split at e
  · rename_i i j
    unfold RepD at ha hb
    subst ha hb
    cases hk : binI op i j with
    | none => simp [hk] at e
    | some k =>
      simp [hk] at e; subst e
      obtain ⟨t, rfl⟩ := rx
      obtain ⟨t', rfl⟩ := ry
      exact opr_int op I hk (q _ _ (new_d rep_int))
  · rename_i xs ys
    cases op <;> try (simp at e; done)
    simp only at e
    split at e
    · rename_i hle
      simp only [Option.some.injEq] at e; subst e
      unfold RepD at ha hb
      obtain ⟨p1, vs1, rfl, h1, r1⟩ := ha
      obtain ⟨p2, vs2, rfl, h2, r2⟩ := hb
      refine L2.op_cat pins s σ H _ _ _ _ Q I rx ry ⟨p1, p2, vs1, vs2, rfl, rfl, sb _ _ h1, sb _ _ h2, by rw [line_eq, ← r1.length, ← r2.length]; exact hle, fun p hp => ?_⟩
      have := q (.ref p) _ (new_lst (r1.app r2) hp)
      exact this
    · cases e
  · rename_i xs ys
    cases op <;> try (simp at e; done)
    simp only at e
    split at e
    · rename_i hle
      simp only [Option.some.injEq] at e; subst e
      unfold RepD at ha hb
      have ha0 : RepD X.K ct B (.tup xs) x := by unfold RepD; exact ha
      have hb0 : RepD X.K ct B (.tup ys) y := by unfold RepD; exact hb
      obtain ⟨p1, vs1, rfl, h1, r1⟩ := ha
      obtain ⟨p2, vs2, rfl, h2, r2⟩ := hb
      cases rx
      cases ry
      refine tup_cat I (h1.mono sb).sq (h2.mono sb).sq (by rw [line_eq, ← r1.length, ← r2.length]; exact hle) (fun e1 => ?_) (fun e2 => ?_) fun p its hp => q _ _ (new_tup (r1.app r2) hp)
      · have : xs = [] := List.eq_nil_of_length_eq_zero (by rw [r1.length, e1]; rfl)
        subst this
        exact q _ _ (new_d (by simpa using hb0))
      · have : ys = [] := List.eq_nil_of_length_eq_zero (by rw [r2.length, e2]; rfl)
        subst this
        exact q _ _ (new_d (by simpa using ha0))
    · cases e
  · rename_i xs n
    cases op <;> try (simp at e; done)
    simp only at e
    split at e
    · rename_i hle
      simp only [Option.some.injEq] at e; subst e
      unfold RepD at ha hb
      obtain ⟨p1, vs1, rfl, h1, r1⟩ := ha
      subst hb
      have hl : (line : Nat) < 2 ^ 63 := by decide
      refine L2.op_rep pins s σ H _ _ _ _ Q I rx ry ⟨p1, n, vs1, rfl, rfl, sb _ _ h1, by omega, by omega, by rw [line_eq, ← r1.length]; exact hle.2, fun p hp => ?_⟩
      have := q (.ref p) _ (new_lst (r1.rep n.toNat) hp)
      exact this
    · cases e
  · rename_i xs n
    cases op <;> try (simp at e; done)
    simp only at e
    split at e
    · rename_i hle
      simp only [Option.some.injEq] at e; subst e
      unfold RepD at ha hb
      obtain ⟨p1, vs1, rfl, h1, r1⟩ := ha
      subst hb
      obtain ⟨t, rfl⟩ := ry
      cases rx
      exact tup_rep I (h1.mono sb).sq (fun z => hle.1 (List.eq_nil_of_length_eq_zero (by rw [r1.length, z]; rfl))) hle.2.1 hle.2.2.1 (by rw [← r1.length]; exact hle.2.2.2) fun p its hp => q _ _ (new_tup (r1.rep n.toNat) hp)
    · cases e
  · cases e
end
end Ev
set_option Elab.async false
set_option linter.all false
set_option maxRecDepth 100000
set_option maxHeartbeats 1000000
/-! Comparisons, subscripts, built-in functions, by values. -/
namespace Ev
open PySem PySem.Spec PyProof.Rows
open L2 (V HO Hp SqL SqT Same upd upd_same upd_ne Cx PE PT PA OpR CallR MtR IxR SlR Inv RelV Vals VK)

section
variable {X : Cx} {ct : Str → Option Addr}
def rCm (K : PySem.W.Frag) (ct : Str → Option Addr) (op : CmpOp) : L2.R2 := fun x y H Q => ∃ B a b z, Same B H ∧ RepD K ct B a x ∧ RepD K ct B b y ∧ cmpD op a b = some z ∧ Q (.bl z) H
theorem okD_plain {p : PyData} (h : okD p = true) : p.plain = true ∧ p.depth ≤ 32 := by
  unfold okD at h
  simpa using h
theorem eqD_some {x y : D} {b : Bool} (h : eqD x y = some b) : ∃ p q, x.py = some p ∧ y.py = some q ∧ okD p = true ∧ okD q = true ∧ b = PyData.eqv p q := by
  unfold eqD at h
  split at h
  · rename_i p q e1 e2
    split at h
    · rename_i hk
      simp only [Option.some.injEq] at h
      simp only [Bool.and_eq_true] at hk
      exact ⟨p, q, e1, e2, hk.1, hk.2, h.symm⟩
    · cases h
  · cases h
theorem ltD_some {f : PyData → PyData → Bool} {x y : D} {b : Bool} (h : ltD f x y = some b) : ∃ p q, x.py = some p ∧ y.py = some q ∧ okD p = true ∧ okD q = true ∧ W.alike p q = true ∧ p ≠ .none ∧ b = f p q := by
  unfold ltD at h
  split at h
  · rename_i p q e1 e2
    split at h
    · rename_i hk
      simp only [Option.some.injEq] at h
      unfold okLt at hk
      simp only [Bool.and_eq_true] at hk
      exact ⟨p, q, e1, e2, hk.1.1.1, hk.1.1.2, hk.1.2, fun z => by rw [z] at hk; exact absurd hk.2 (by simp), h.symm⟩
    · cases h
  · cases h
theorem room_min {u a b : Nat} (hu : u + 64 < cLine) (ha : a ≤ 32) : u + min a b < cLine := by
  have : min a b ≤ a := Nat.min_le_left _ _
  omega
theorem reads_of {pins : List (Addr × Obj)} {s : Shared} {σ : L2.St} {B H : Hp} {d : D} {v : V} {u : Value} {p : PyData} (I : Inv X pins σ H s) (sb : Same B H) (h : RepD X.K ct B d v) (e : d.py = some p) (r : RelV v u) : ∃ as, Reads s.heap u p as :=
  L2.Dp.reads I p v u (repD_dp sb h e) r
theorem opr_cmp (op : CmpOp) (hu : X.A.units + 64 < cLine) : OpR X (compareOp op) (rCm X.K ct op) := by
  intro pins s σ H x y v u Q I rx ry h
  obtain ⟨B, a, b, z, sb, ha, hb, e, q⟩ := h
  have fin : ∀ {c : Bool}, c = z → L2.EP X pins σ Q (.bool c) s := fun {c} ec => ⟨.bl z, H, I, by rw [ec]; rfl, q⟩
  have lt : ∀ {f : PyData → PyData → Bool}, ltD f a b = some z → (∀ (p q : PyData) (as bs : List Addr), Reads s.heap v p as → Reads s.heap u q bs → W.alike p q = true → p ≠ .none → X.A.units + min p.depth q.depth < cLine → L2.EP X pins σ Q (.bool (f p q)) s → wpAny (model X.prog X.w) X.A (compareOp op v u) (L2.EP X pins σ Q) X.xe s) →
      wpAny (model X.prog X.w) X.A (compareOp op v u) (L2.EP X pins σ Q) X.xe s := fun {f} hl k => by
    obtain ⟨p, q', e1, e2, k1, k2, al, nn, ez⟩ := ltD_some hl
    obtain ⟨as, r1⟩ := reads_of I sb ha e1 rx
    obtain ⟨bs, r2⟩ := reads_of I sb hb e2 ry
    exact k p q' as bs r1 r2 al nn (room_min hu (okD_plain k1).2) (fin ez.symm)
  cases op with
  | Eq =>
    simp only [cmpD] at e
    obtain ⟨p, q', e1, e2, k1, k2, ez⟩ := eqD_some e
    obtain ⟨as, r1⟩ := reads_of I sb ha e1 rx
    obtain ⟨bs, r2⟩ := reads_of I sb hb e2 ry
    exact SeqAt.eq_plain r1 r2 (okD_plain k1).1 (okD_plain k2).1 (room_min hu (okD_plain k1).2) (fin ez.symm)
  | NotEq =>
    simp only [cmpD] at e
    cases h0 : eqD a b with
    | none => simp [h0] at e
    | some c =>
      simp only [h0, Option.some.injEq] at e
      obtain ⟨p, q', e1, e2, k1, k2, ez⟩ := eqD_some h0
      obtain ⟨as, r1⟩ := reads_of I sb ha e1 rx
      obtain ⟨bs, r2⟩ := reads_of I sb hb e2 ry
      exact SeqAt.ne_plain r1 r2 (okD_plain k1).1 (okD_plain k2).1 (room_min hu (okD_plain k1).2) (fin (by rw [← ez]; exact e))
  | Lt =>
    simp only [cmpD] at e
    split at e
    · rename_i i j
      unfold RepD at ha hb
      subst ha hb
      simp only [Option.some.injEq] at e
      exact L2.op_lt pins s σ H _ _ v u Q I rx ry ⟨i, j, rfl, rfl, (show Q (.bl (decide (i < j))) H by rw [e]; exact q)⟩
    · exact lt e fun p q' as bs r1 r2 al nn hh ff => PySem.W.lt_data r1 r2 al nn hh ff
  | LtE =>
    simp only [cmpD] at e
    split at e
    · rename_i i j
      unfold RepD at ha hb
      subst ha hb
      simp only [Option.some.injEq] at e
      exact L2.op_le pins s σ H _ _ v u Q I rx ry ⟨i, j, rfl, rfl, (show Q (.bl (decide (i ≤ j))) H by rw [e]; exact q)⟩
    · exact lt e fun p q' as bs r1 r2 al nn hh ff => PySem.W.le_data r1 r2 al nn hh ff
  | Gt =>
    simp only [cmpD] at e
    split at e
    · rename_i i j
      unfold RepD at ha hb
      subst ha hb
      simp only [Option.some.injEq] at e
      exact L2.op_gt pins s σ H _ _ v u Q I rx ry ⟨i, j, rfl, rfl, (show Q (.bl (decide (j < i))) H by rw [e]; exact q)⟩
    · exact lt e fun p q' as bs r1 r2 al nn hh ff => PySem.W.gt_data r1 r2 al nn hh ff
  | GtE =>
    simp only [cmpD] at e
    split at e
    · rename_i i j
      unfold RepD at ha hb
      subst ha hb
      simp only [Option.some.injEq] at e
      exact L2.op_ge pins s σ H _ _ v u Q I rx ry ⟨i, j, rfl, rfl, (show Q (.bl (decide (j ≤ i))) H by rw [e]; exact q)⟩
    · exact lt e fun p q' as bs r1 r2 al nn hh ff => PySem.W.ge_data r1 r2 al nn hh ff
  | Is =>
    simp only [cmpD] at e
    cases b with
    | non =>
      simp only [Option.some.injEq] at e
      unfold RepD at hb
      subst hb
      refine L2.op_isN pins s σ H _ _ v u Q I rx ry ⟨rfl, ?_⟩
      have : decide (x = V.non) = z := by
        subst e
        cases a with
        | non => unfold RepD at ha; subst ha; rfl
        | bl _ => unfold RepD at ha; subst ha; rfl
        | int _ => unfold RepD at ha; subst ha; rfl
        | str _ => unfold RepD at ha; subst ha; rfl
        | tup _ => unfold RepD at ha; obtain ⟨p, vs, e1, _⟩ := ha; subst e1; rfl
        | lst _ => unfold RepD at ha; obtain ⟨p, vs, e1, _⟩ := ha; subst e1; rfl
        | frl _ => unfold RepD at ha; obtain ⟨p, vs, e1, _⟩ := ha; subst e1; rfl
        | obj _ _ _ => unfold RepD at ha; obtain ⟨p, _, _, vs, e1, _⟩ := ha; subst e1; rfl
      rw [this]; exact q
    | _ => simp at e
  | IsNot =>
    simp only [cmpD] at e
    cases b with
    | non =>
      simp only [Option.some.injEq] at e
      unfold RepD at hb
      subst hb
      refine L2.op_notN pins s σ H _ _ v u Q I rx ry ⟨rfl, ?_⟩
      have : (!decide (x = V.non)) = z := by
        subst e
        cases a with
        | non => unfold RepD at ha; subst ha; rfl
        | bl _ => unfold RepD at ha; subst ha; rfl
        | int _ => unfold RepD at ha; subst ha; rfl
        | str _ => unfold RepD at ha; subst ha; rfl
        | tup _ => unfold RepD at ha; obtain ⟨p, vs, e1, _⟩ := ha; subst e1; rfl
        | lst _ => unfold RepD at ha; obtain ⟨p, vs, e1, _⟩ := ha; subst e1; rfl
        | frl _ => unfold RepD at ha; obtain ⟨p, vs, e1, _⟩ := ha; subst e1; rfl
        | obj _ _ _ => unfold RepD at ha; obtain ⟨p, _, _, vs, e1, _⟩ := ha; subst e1; rfl
      rw [this]; exact q
    | _ => simp at e
  | In => simp [cmpD] at e
  | NotIn => simp [cmpD] at e

/-! ### in -/
theorem cmpAll_some {x : D} {ys : List D} {p : PyData} {ps : List PyData} (h : cmpAll x ys = some (p, ps)) : x.py = some p ∧ okD p = true ∧ D.pys ys = some ps ∧ ∀ q ∈ ps, okD q = true := by
  unfold cmpAll at h
  split at h
  · rename_i p' ps' e1 e2
    split at h
    · rename_i hk
      cases h
      rw [Bool.and_eq_true, List.all_eq_true] at hk
      exact ⟨e1, hk.1, e2, hk.2⟩
    · cases h
  · cases h
theorem inD_some {x : D} {ys : List D} {b : Bool} (h : inD x ys = some b) : ∃ p ps, x.py = some p ∧ okD p = true ∧ D.pys ys = some ps ∧ (∀ q ∈ ps, okD q = true) ∧ b = ps.any fun q => PyData.eqv q p := by
  unfold inD at h
  split at h
  · rename_i p ps e
    obtain ⟨h1, h2, h3, h4⟩ := cmpAll_some e
    exact ⟨p, ps, h1, h2, h3, h4, (Option.some.inj h).symm⟩
  · cases h
theorem depthAll_le : ∀ {ps : List PyData} {n : Nat}, (∀ q ∈ ps, q.depth ≤ n) → PyData.depthAll ps ≤ n
  | [], _, _ => by simp [PyData.depthAll]
  | p :: ps, n, h => by
    rw [PyData.depthAll]
    exact Nat.max_le.mpr ⟨h p List.mem_cons_self, depthAll_le fun q hq => h q (List.mem_cons_of_mem _ hq)⟩
theorem plainAll_of : ∀ {ps : List PyData}, (∀ q ∈ ps, q.plain = true) → PyData.plainAll ps = true
  | [], _ => by simp [PyData.plainAll]
  | p :: ps, h => by
    rw [PyData.plainAll, h p List.mem_cons_self, plainAll_of fun q hq => h q (List.mem_cons_of_mem _ hq)]; rfl
def rIn (K : PySem.W.Frag) (ct : Str → Option Addr) (neg : Bool) : L2.R2 := fun x y H Q => ∃ B a b ys z, Same B H ∧ RepD K ct B a x ∧ RdD K ct B H b y ∧ b.items = some ys ∧ inD a ys = some z ∧ Q (.bl (if neg then !z else z)) H
theorem opr_in (neg : Bool) (hu : X.A.units + 64 < cLine) : OpR X (compareOp (if neg then .NotIn else .In)) (rIn X.K ct neg) := by
  intro pins s σ H x y v u Q I rx ry h
  obtain ⟨B, a, b, ys, z, sb, ha, hb, hi, e, q⟩ := h
  obtain ⟨p, vs, rfl, r, hsq⟩ := rd_items sb hb hi
  cases ry
  have go : ∀ (pd : PyData) (ps : List PyData), a.py = some pd → okD pd = true → D.pys ys = some ps → (∀ q ∈ ps, okD q = true) → z = (ps.any fun q => PyData.eqv q pd) →
      wpAny (model X.prog X.w) X.A (compareOp (if neg then .NotIn else .In) v (.ref p)) (L2.EP X pins σ Q) X.xe s := fun pd ps e1 k1 e2 k2 ez => by
    obtain ⟨as, r1⟩ := reads_of I sb ha e1 rx
    have hd : L2.DpAll X.K H vs ps := repDs_dp sb r e2
    have hp : PyData.plainAll ps = true := plainAll_of fun q hq => (okD_plain (k2 q hq)).1
    have hdp : X.A.units + 1 + min (PyData.depthAll ps) pd.depth < cLine := by
      have := depthAll_le (n := 32) fun q hq => (okD_plain (k2 q hq)).2
      have : min (PyData.depthAll ps) pd.depth ≤ 32 := Nat.le_trans (Nat.min_le_left _ _) this
      omega
    rcases hsq with hl | ht
    · obtain ⟨bs, r2⟩ := L2.Dp.reads I (.list ps) (.ref p) (.ref p) (.lst hl hd) rfl
      cases neg with
      | false => exact SeqAt.in_list_data r2 r1 hp (okD_plain k1).1 hdp ⟨.bl z, H, I, by rw [ez]; rfl, q⟩
      | true => exact SeqAt.notIn_list_data r2 r1 hp (okD_plain k1).1 hdp ⟨.bl (!z), H, I, by rw [ez]; rfl, q⟩
    · obtain ⟨bs, r2⟩ := L2.Dp.reads I (.tuple ps) (.ref p) (.ref p) (.tup ht hd) rfl
      cases neg with
      | false => exact SeqAt.in_tuple_data r2 r1 hp (okD_plain k1).1 hdp ⟨.bl z, H, I, by rw [ez]; rfl, q⟩
      | true => exact SeqAt.notIn_tuple_data r2 r1 hp (okD_plain k1).1 hdp ⟨.bl (!z), H, I, by rw [ez]; rfl, q⟩
  obtain ⟨pd, ps, e1, k1, e2, k2, ez⟩ := inD_some e
  exact go pd ps e1 k1 e2 k2 ez
end
end Ev
set_option Elab.async false
set_option linter.all false
set_option maxRecDepth 100000
set_option maxHeartbeats 1000000
/-! Subscripts, slices, built-in functions, methods, by values. -/
namespace Ev
open PySem PySem.Spec PyProof.Rows
open L2 (V HO Hp SqL SqT Same upd upd_same upd_ne Cx PE PT PA OpR CallR MtR IxR SlR Inv RelV Vals VK)

section
variable {X : Cx} {ct : Str → Option Addr}
theorem atI_len {α β : Type} {xs : List α} {ys : List β} {n : Int} {y : α} (hl : xs.length = ys.length) (h : L2.atI xs n = some y) : ∃ j, L2.ixN ys.length n = some j ∧ xs[j]? = some y := by
  unfold L2.atI at h
  rw [hl] at h
  cases e : L2.ixN ys.length n with
  | none => simp [e] at h
  | some j => rw [e] at h; exact ⟨j, rfl, h⟩
theorem ix_items {d z : D} {i : Int} (h : d.ix i = some z) : ∃ ds, d.items = some ds ∧ L2.atI ds i = some z := by
  cases d <;> simp [D.ix] at h <;> exact ⟨_, rfl, h⟩
def rIxD (K : PySem.W.Frag) (ct : Str → Option Addr) : L2.R2 := fun x y H Q => ∃ B d i z, Same B H ∧ RdD K ct B H d x ∧ y = .int i ∧ d.ix i = some z ∧ ∀ v, RepD K ct B z v → Q v H
theorem ixr : IxR X (rIxD X.K ct) := by
  intro ea eb pins s σ H x y v u Q I rx ry h hsub
  obtain ⟨B, d, i, z, sb, hd, rfl, e, q⟩ := h
  obtain ⟨ds, e1, e2⟩ := ix_items e
  obtain ⟨a, vs, rfl, r, hs⟩ := rd_items sb hd e1
  obtain ⟨j, h1, h2⟩ := atI_len r.length e2
  obtain ⟨w, hw, rw'⟩ := r.get h2
  have hat : L2.atI vs i = some w := by unfold L2.atI; rw [h1]; exact hw
  rcases hs with hl | ht
  · exact L2.ix_list ea eb pins s σ H _ _ v u Q I rx ry ⟨a, vs, i, w, rfl, rfl, hl, hat, q w rw'⟩ hsub
  · exact L2.ix_tup ea eb pins s σ H _ _ v u Q I rx ry ⟨a, vs, i, w, rfl, rfl, ht, hat, q w rw'⟩ hsub
theorem cut_rep {K : PySem.W.Frag} {B : Hp} {ds : List D} {vs : List V} (r : RepDs K ct B ds vs) (lo hi : Option Int) : RepDs K ct B (cut ds lo hi) (L2.cutV vs lo hi) := by
  unfold cut L2.cutV
  rw [r.length]
  exact (r.drop _).take _
def rSlD (K : PySem.W.Frag) (ct : Str → Option Addr) : V → Option Int → Option Int → Hp → VK → Prop := fun x lo hi H Q => ∃ B d m, Same B H ∧ RdD K ct B H d x ∧ sliceV d lo hi = some m ∧ ∀ v H', NewM K ct B H m v H' → Q v H'
theorem slr : SlR X (rSlD X.K ct) := by
  intro pins s σ H x v vl vu lo hi sl Q I rx hs pl pu h
  obtain ⟨B, d, m, sb, hd, e, q⟩ := h
  have lst : ∀ (ds : List D) (a : Addr) (vs : List V), m = .lst ((cut ds lo hi).map .d) → x = .ref a → RepDs X.K ct B ds vs → SqL X.K H a vs →
      ∃ T id, typeLookup (.type T) "__getitem__" = pure (some (.builtin id)) ∧ s.TypeIs v T ∧ wpAny (model X.prog X.w) X.A (getItem v (.ref sl)) (L2.EP X pins σ Q) X.xe s :=
    fun ds a vs em ex r hl => L2.sl_list pins s σ H x v vl vu lo hi sl Q I rx hs pl pu ⟨a, vs, ex, hl, fun p hp => q _ _ (by subst em; exact new_lst (cut_rep r lo hi) hp)⟩
  rcases hd with hd | ⟨a, xs, es, rfl, rfl, hH, r⟩
  · cases d with
    | lst ds =>
      simp only [sliceV, Option.some.injEq] at e
      unfold RepD at hd
      obtain ⟨a, vs, rfl, h1, h2⟩ := hd
      exact lst ds a vs e.symm rfl h2 (SqL.of (sb _ _ h1))
    | frl ds =>
      simp only [sliceV, Option.some.injEq] at e
      unfold RepD at hd
      obtain ⟨a, vs, rfl, h1, h2⟩ := hd
      exact lst ds a vs e.symm rfl h2 (sb.seq h1)
    | tup ds =>
      simp only [sliceV, Option.some.injEq] at e
      have hd0 := hd
      unfold RepD at hd
      obtain ⟨a, vs, rfl, h1, h2⟩ := hd
      cases rx
      obtain ⟨its, ri, ht, hz⟩ := I.tuple (h1.mono sb).sq
      have hlen : its.toArray.size = vs.length := by rw [List.size_toArray, ri.length]
      subst e
      refine ⟨"tuple", _, PyProof.Rows.slot_tuple_getitem.lookup, ht.typeIs, ?_⟩
      by_cases hw : HT.sIx vs.length 0 lo = 0 ∧ HT.sIx vs.length vs.length hi = vs.length
      · refine L2.getItem_tuple_whole ht hs pl pu (by rw [hlen]; exact hw) ⟨.ref a, H, I, rfl, q _ _ (new_d ?_)⟩
        have : cut ds lo hi = ds := by unfold cut; rw [h2.length, hw.1, hw.2, List.drop_zero, ← h2.length, Nat.sub_zero, List.take_length]
        rw [this]; exact hd0
      · refine HT.getItem_tuple_cut ht hs pl pu (by rw [hlen]; exact hw) ?_ (by rw [hlen]; exact hz)
        rw [hlen]
        have rc : Vals (L2.cutV vs lo hi) ((its.drop (HT.sIx vs.length 0 lo)).take (HT.sIx vs.length vs.length hi - HT.sIx vs.length 0 lo)) := (ri.drop _).take _
        exact ⟨V.ref s.heap.objs.size, _, tup_laid (t' := s.toks) I rc (Nat.le_trans (L2.cutV_length vs lo hi) hz), rfl, q _ _ (new_tup (cut_rep h2 lo hi) (I.hok.fresh (Nat.le_refl _)))⟩
    | _ => simp [sliceV] at e
  · simp only [sliceV, Option.some.injEq] at e
    exact lst es a xs e.symm rfl r (SqL.of hH)

/-! ### built-in functions -/
def rFn (K : PySem.W.Frag) (ct : Str → Option Addr) (f : List D → Option M) : List V → Hp → VK → Prop := fun vs H Q => ∃ B ds m, Same B H ∧ RdDs K ct B H ds vs ∧ f ds = some m ∧ ∀ v H', NewM K ct B H m v H' → Q v H'
theorem one_inv {f : D → Option M} {ds : List D} {m : M} (h : one f ds = some m) : ∃ d, ds = [d] ∧ f d = some m := by
  unfold one at h
  split at h
  · exact ⟨_, rfl, h⟩
  · cases h
theorem len_items {d : D} {n : Int} (h : d.len = some n) : ∃ ds, d.items = some ds ∧ n = ds.length := by
  cases d <;> simp [D.len] at h <;> exact ⟨_, rfl, h.symm⟩
theorem cr_len : CallR X (.builtin "len") (rFn X.K ct (one lenD)) := by
  intro pins s σ H vs us Q I r h
  obtain ⟨B, ds, m, sb, hd, e, q⟩ := h
  obtain ⟨d, ed, e0⟩ := one_inv e
  subst ed
  clear e
  have e := e0
  clear e0
  obtain ⟨v, rfl, hv⟩ := rd_un hd
  unfold lenD at e
  cases hn : d.len with
  | none => simp [hn] at e
  | some n =>
    simp only [hn, Option.some.injEq] at e
    obtain ⟨es, e1, rfl⟩ := len_items hn
    obtain ⟨a, ws, rfl, rr, hs⟩ := rd_items sb hv e1
    subst e
    refine L2.call_len_seq pins s σ H _ us Q I r ⟨a, ws, rfl, hs, ?_⟩
    rw [← rr.length]
    exact q _ _ (new_d rep_int)
theorem cr_list : CallR X (.type "list") (rFn X.K ct (one lstD)) := by
  intro pins s σ H vs us Q I r h
  obtain ⟨B, ds, m, sb, hd, e, q⟩ := h
  obtain ⟨d, ed, e0⟩ := one_inv e
  subst ed
  clear e
  have e := e0
  clear e0
  obtain ⟨v, rfl, hv⟩ := rd_un hd
  unfold lstD at e
  cases hn : d.items with
  | none => simp [hn] at e
  | some es =>
    simp only [hn, Option.some.injEq] at e
    obtain ⟨a, ws, rfl, rr, hs⟩ := rd_items sb hv hn
    subst e
    exact L2.call_list_of pins s σ H _ us Q I r ⟨a, ws, rfl, hs, fun l hl => q _ _ (new_lst rr hl)⟩
theorem cr_tuple : CallR X (.type "tuple") (rFn X.K ct (one tupD)) := by
  intro pins s σ H vs us Q I r h
  obtain ⟨B, ds, m, sb, hd, e, q⟩ := h
  obtain ⟨d, ed, e0⟩ := one_inv e
  subst ed
  clear e
  have e := e0
  clear e0
  obtain ⟨v, rfl, hv⟩ := rd_un hd
  have fromL : ∀ (es : List D) (a : Addr) (ws : List V), m = .d (.tup es) → v = .ref a → RepDs X.K ct B es ws → SqL X.K H a ws → wpAny (model X.prog X.w) X.A (call (.type "tuple") us) (L2.EP X pins σ Q) X.xe s := fun es a ws em ev rr hl => by
    subst em ev
    obtain ⟨u, rfl, ru⟩ := L2.vals1 r
    cases ru
    obtain ⟨its, ri, pl, hz⟩ := I.list hl
    refine call_tuple_list pl.isList (fun h' kp => ?_) (by rw [List.size_toArray, ← ri.length]; exact hz)
    have I1 : Inv X pins σ H { s with heap := h' } := I.kept (t' := s.toks) kp
    exact ⟨V.ref h'.objs.size, _, tup_laid (t' := s.toks) I1 ri hz, rfl, q _ _ (new_tup rr (I1.hok.fresh (Nat.le_refl _)))⟩
  rcases hv with hv | ⟨a, xs, es, rfl, rfl, hH, rr⟩
  · cases d with
    | tup es =>
      simp only [tupD, D.items, Option.some.injEq] at e
      subst e
      have hv0 := hv
      unfold RepD at hv
      obtain ⟨a, ws, rfl, h1, h2⟩ := hv
      exact L2.call_tupleT pins s σ H _ us Q I r ⟨a, ws, rfl, (h1.mono sb).sq, q _ _ (new_d hv0)⟩
    | lst es =>
      simp only [tupD, D.items, Option.some.injEq] at e
      unfold RepD at hv
      obtain ⟨a, ws, rfl, h1, h2⟩ := hv
      exact fromL es a ws e.symm rfl h2 (SqL.of (sb _ _ h1))
    | frl es =>
      simp only [tupD, D.items, Option.some.injEq] at e
      unfold RepD at hv
      obtain ⟨a, ws, rfl, h1, h2⟩ := hv
      exact fromL es a ws e.symm rfl h2 (sb.seq h1)
    | _ => simp [tupD, D.items] at e
  · simp only [tupD, D.items, Option.some.injEq] at e
    exact fromL es a xs e.symm rfl rr (SqL.of hH)
theorem cr_sum (hc : X.calm = true) : CallR X (.builtin "sum") (rFn X.K ct (one sumD)) := by
  intro pins s σ H vs us Q I r h
  obtain ⟨B, ds, m, sb, hd, e, q⟩ := h
  obtain ⟨d, ed, e0⟩ := one_inv e
  subst ed
  clear e
  have e := e0
  clear e0
  obtain ⟨v, rfl, hv⟩ := rd_un hd
  unfold sumD at e
  cases hn : d.items with
  | none => simp [hn] at e
  | some es =>
    simp only [hn] at e
    cases hi : asInts es with
    | none => simp [hi] at e
    | some ks =>
      simp only [hi, Option.some.injEq] at e
      obtain ⟨a, ws, rfl, rr, hs⟩ := rd_items sb hv hn
      rw [asInts_map hi] at rr
      have ew := rr.ints_inv
      subst e ew
      rcases hs with hl | ht
      · exact L2.cr_sum hc pins s σ H _ us Q I r ⟨a, ks, rfl, hl, q _ _ (new_d rep_int)⟩
      · obtain ⟨its, ri, pt, _⟩ := I.tuple ht
        have hu := L2.Vals.ref1 r
        subst hu
        obtain ⟨xs, ex⟩ := (L2.Vals.ints ri).allInts.items
        have hnum : numsOf (intItems xs).toList = ks := by rw [← ex]; exact (L2.Vals.ints ri).numsOf
        rw [nums_intItems] at hnum
        rw [ex] at pt
        refine PySem.W.ktm_sumG (I.ok.hd hc) pt fun h' tk t' hk => ⟨.int ks.sum, H, I.kept hk, ⟨t', ?_⟩, q _ _ (new_d rep_int)⟩
        rw [preSum_eq, List.take_of_length_le (by simp), hnum]
theorem okAll_alike {ps : List PyData} (h : okAll ps = true) : (∀ x ∈ ps, ∀ y ∈ ps, W.alike x y = true) ∧ (∀ x ∈ ps, okD x = true ∧ x ≠ .none) := by
  unfold okAll at h
  simp only [List.all_eq_true] at h
  refine ⟨fun x hx y hy => ?_, fun x hx => ?_⟩
  · have := h x hx y hy
    unfold okLt at this
    simp only [Bool.and_eq_true] at this
    exact this.1.2
  · have := h x hx x hx
    unfold okLt at this
    simp only [Bool.and_eq_true] at this
    exact ⟨this.1.1.1, fun z => by rw [z] at this; exact absurd this.2 (by simp)⟩
/-- the item that min, max gives: it is one of the items -/
theorem pick_ok {pins : List (Addr × Obj)} {s : Shared} {σ : L2.St} {B H : Hp} {es : List D} {ps : List PyData} {ws : List V} {its : List Value} {Q : VK} {i : Nat} {u : Value} {h' : Heap} {tk : Nat} {best : PyData} {bs as : List Addr}
    (I : Inv X pins σ H s) (sb : Same B H) (rr : RepDs X.K ct B es ws) (ep : D.pys es = some ps) (ri : Vals ws its) (ok : ∀ p ∈ ps, okD p = true) (hr : ReadsAll s.heap its ps as)
    (hu : its[i]? = some u) (hb : Reads h' u best bs) (hk : ∀ b o, s.heap.get? b = some o → h'.get? b = some o) (q : ∀ v, RepD X.K ct B (ofPy best) v → Q v H) : L2.EP X pins σ Q u { s with heap := h', toks := tk } := by
  have hil : i < ws.length := by rw [ri.length]; exact lt_of_some hu
  have hw : ws[i]? = some ws[i] := List.getElem?_eq_getElem hil
  obtain ⟨u', hu', ru⟩ := ri.get hw
  rw [hu] at hu'; cases hu'
  have hel : i < es.length := by rw [rr.length]; exact hil
  have he : es[i]? = some es[i] := List.getElem?_eq_getElem hel
  obtain ⟨w', hw', rw'⟩ := rr.get he
  rw [hw] at hw'; cases hw'
  have hpl : i < ps.length := by rw [← pys_len ep]; exact hel
  have hp : ps[i]? = some ps[i] := List.getElem?_eq_getElem hpl
  obtain ⟨d', hd', hpy⟩ := pys_get ep hp
  rw [he] at hd'; cases hd'
  obtain ⟨cs, r2⟩ := reads_of I sb rw' hpy ru
  have hpl2 : (ps[i]).plain = true := (okD_plain (ok _ (List.getElem_mem hpl))).1
  have := SeqAt.plain_unique _ _ _ _ _ hpl2 (Reads.keeps hk r2) hb
  exact ⟨ws[i], H, I.kept hk, ru, q _ (by rw [← this, ofPy_py hpy]; exact rw')⟩
theorem readsAll_of {pins : List (Addr × Obj)} {s : Shared} {σ : L2.St} {B H : Hp} {es : List D} {ps : List PyData} {ws : List V} {its : List Value} (I : Inv X pins σ H s) (sb : Same B H) (rr : RepDs X.K ct B es ws) (ep : D.pys es = some ps) (ri : Vals ws its) :
    ∃ as, ReadsAll s.heap its ps as := L2.Dp.readsAll I ps ws its (repDs_dp sb rr ep) ri
theorem cr_min (hc : X.calm = true) (hu : X.A.units + 64 < cLine) : CallR X (.builtin "min") (rFn X.K ct minL) := by
  intro pins s σ H vs us Q I r h
  obtain ⟨B, ds, m, sb, hd, e, q⟩ := h
  unfold minL at e
  split at e
  · rename_i d
    obtain ⟨v, rfl, hv⟩ := rd_un hd
    unfold minD at e
    cases hn : d.items with
    | none => simp [hn] at e
    | some es =>
      simp only [hn] at e
      split at e
      · rename_i a0 r0 ep
        split at e
        · rename_i hok
          simp only [Option.some.injEq] at e
          subst e
          obtain ⟨a, ws, rfl, rr, hs⟩ := rd_items sb hv hn
          obtain ⟨al, ok⟩ := okAll_alike hok
          have hdp : X.A.units + 1 + PyData.depthAll (a0 :: r0) < cLine := by
            have := depthAll_le (n := 32) fun p hp => (okD_plain (ok p hp).1).2
            omega
          have hus := L2.Vals.ref1 r
          subst hus
          rcases hs with hl | ht
          · obtain ⟨its, ri, pl, _⟩ := I.list hl
            obtain ⟨as, hr⟩ := readsAll_of I sb rr ep ri
            exact PySem.W.min_list_data (I.ok.hd hc) pl.isList (by simpa using hr) ⟨al, fun x hx => (ok x hx).2⟩ hdp fun i u h' tk bs hi hb hk =>
              pick_ok I sb rr ep ri (fun p hp => (ok p hp).1) hr (by simpa using hi) hb hk fun v hv => q _ _ (new_d hv)
          · obtain ⟨its, ri, pl, _⟩ := I.tuple ht
            obtain ⟨as, hr⟩ := readsAll_of I sb rr ep ri
            exact PySem.W.min_tuple_data (I.ok.hd hc) pl (by simpa using hr) ⟨al, fun x hx => (ok x hx).2⟩ hdp fun i u h' tk bs hi hb hk =>
              pick_ok I sb rr ep ri (fun p hp => (ok p hp).1) hr (by simpa using hi) hb hk fun v hv => q _ _ (new_d hv)
        · cases e
      · cases e
  · rename_i a b
    simp only [Option.some.injEq] at e
    subst e
    obtain ⟨v, r1, rfl, h1, v2, r2, rfl, h2, h3⟩ := hd
    have h3 : r2 = [] := h3
    subst h3
    rcases h1 with h1 | ⟨_, _, _, z, _⟩
    · rcases h2 with h2 | ⟨_, _, _, z, _⟩
      · unfold RepD at h1 h2
        subst h1 h2
        exact L2.call_min2 hc pins s σ H _ us Q I r ⟨a, b, rfl, q _ _ (new_d rep_int)⟩
      · cases z
    · cases z
  · cases e
theorem cr_max (hc : X.calm = true) (hu : X.A.units + 64 < cLine) : CallR X (.builtin "max") (rFn X.K ct maxL) := by
  intro pins s σ H vs us Q I r h
  obtain ⟨B, ds, m, sb, hd, e, q⟩ := h
  unfold maxL at e
  split at e
  · rename_i d
    obtain ⟨v, rfl, hv⟩ := rd_un hd
    unfold maxD at e
    cases hn : d.items with
    | none => simp [hn] at e
    | some es =>
      simp only [hn] at e
      split at e
      · rename_i a0 r0 ep
        split at e
        · rename_i hok
          simp only [Option.some.injEq] at e
          subst e
          obtain ⟨a, ws, rfl, rr, hs⟩ := rd_items sb hv hn
          obtain ⟨al, ok⟩ := okAll_alike hok
          have hdp : X.A.units + 1 + PyData.depthAll (a0 :: r0) < cLine := by
            have := depthAll_le (n := 32) fun p hp => (okD_plain (ok p hp).1).2
            omega
          have hus := L2.Vals.ref1 r
          subst hus
          rcases hs with hl | ht
          · obtain ⟨its, ri, pl, _⟩ := I.list hl
            obtain ⟨as, hr⟩ := readsAll_of I sb rr ep ri
            exact PySem.W.max_list_data (I.ok.hd hc) pl.isList (by simpa using hr) ⟨al, fun x hx => (ok x hx).2⟩ hdp fun i u h' tk bs hi hb hk =>
              pick_ok I sb rr ep ri (fun p hp => (ok p hp).1) hr (by simpa using hi) hb hk fun v hv => q _ _ (new_d hv)
          · obtain ⟨its, ri, pl, _⟩ := I.tuple ht
            obtain ⟨as, hr⟩ := readsAll_of I sb rr ep ri
            exact PySem.W.max_tuple_data (I.ok.hd hc) pl (by simpa using hr) ⟨al, fun x hx => (ok x hx).2⟩ hdp fun i u h' tk bs hi hb hk =>
              pick_ok I sb rr ep ri (fun p hp => (ok p hp).1) hr (by simpa using hi) hb hk fun v hv => q _ _ (new_d hv)
        · cases e
      · cases e
  · rename_i a b
    simp only [Option.some.injEq] at e
    subst e
    obtain ⟨v, r1, rfl, h1, v2, r2, rfl, h2, h3⟩ := hd
    have h3 : r2 = [] := h3
    subst h3
    rcases h1 with h1 | ⟨_, _, _, z, _⟩
    · rcases h2 with h2 | ⟨_, _, _, z, _⟩
      · unfold RepD at h1 h2
        subst h1 h2
        exact L2.call_max2 hc pins s σ H _ us Q I r ⟨a, b, rfl, q _ _ (new_d rep_int)⟩
      · cases z
    · cases z
  · cases e
theorem cr_int : CallR X (.type "int") (rFn X.K ct intL) := by
  intro pins s σ H vs us Q I r h
  obtain ⟨B, ds, m, sb, hd, e, q⟩ := h
  unfold intL at e
  split at e
  · rename_i a
    simp only [Option.some.injEq] at e
    subst e
    obtain ⟨v, rfl, h1 | ⟨_, _, _, z, _⟩⟩ := rd_un hd
    · unfold RepD at h1
      subst h1
      exact L2.call_int1 pins s σ H _ us Q I r (.inl ⟨a, rfl, q _ _ (new_d rep_int)⟩)
    · cases z
  · rename_i b
    simp only [Option.some.injEq] at e
    subst e
    obtain ⟨v, rfl, h1 | ⟨_, _, _, z, _⟩⟩ := rd_un hd
    · unfold RepD at h1
      subst h1
      exact L2.call_int1 pins s σ H _ us Q I r (.inr ⟨b, rfl, q _ _ (new_d rep_int)⟩)
    · cases z
  · cases e
theorem cr_abs : CallR X (.builtin "abs") (rFn X.K ct absL) := by
  intro pins s σ H vs us Q I r h
  obtain ⟨B, ds, m, sb, hd, e, q⟩ := h
  unfold absL at e
  split at e
  · rename_i a
    simp only [Option.some.injEq] at e
    subst e
    obtain ⟨v, rfl, h1 | ⟨_, _, _, z, _⟩⟩ := rd_un hd
    · unfold RepD at h1
      subst h1
      exact L2.call_abs pins s σ H _ us Q I r ⟨a, rfl, q _ _ (new_d rep_int)⟩
    · cases z
  · cases e
end
end Ev
set_option Elab.async false
set_option linter.all false
set_option maxRecDepth 100000
set_option maxHeartbeats 1000000
/-! sorted, isinstance, list(range(..)), len(set(..)), methods that read. -/
namespace Ev
open PySem PySem.Spec PyProof.Rows PySem.Calls
open L2 (V HO Hp SqL SqT Same upd upd_same upd_ne Cx PE PT PA OpR CallR MtR IxR SlR Inv RelV Vals VK)

section
variable {X : Cx} {ct : Str → Option Addr}
def encD (b : D × V) : PyData := match b.1.py with | some p => p | none => .none
theorem encD_zip : ∀ {es : List D} {ws : List V} {ps : List PyData}, es.length = ws.length → D.pys es = some ps → (es.zip ws).map encD = ps
  | [], [], ps, _, e => by simp [D.pys] at e; subst e; rfl
  | d :: es, w :: ws, ps, hl, e => by
    unfold D.pys at e
    cases q : d.py with
    | none => simp [q] at e
    | some y =>
      cases q2 : D.pys es with
      | none => simp [q, q2] at e
      | some ys =>
        simp [q, q2] at e; subst e
        rw [List.zip_cons_cons, List.map_cons, encD_zip (by simpa using hl) q2]
        simp [encD, q]
  | [], _ :: _, _, h, _ => by simp at h
  | _ :: _, [], _, h, _ => by simp at h
theorem each_rel : ∀ {es : List D} {ws : List V} {its : List Value}, es.length = ws.length → Vals ws its → W.EachIs (fun (u : Value) (b : D × V) => RelV b.2 u) its (es.zip ws)
  | [], [], [], _, .nil => .nil
  | d :: es, w :: ws, u :: its, hl, .cons r t => .cons r (each_rel (by simpa using hl) t)
  | [], _ :: _, _, h, _ => by simp at h
  | _ :: _, [], _, h, _ => by simp at h
theorem each_read {pins : List (Addr × Obj)} {s : Shared} {σ : L2.St} {B H : Hp} {h2 : Heap} (I : Inv X pins σ H s) (sb : Same B H) (k : ∀ b o, s.heap.get? b = some o → h2.get? b = some o) : ∀ {es : List D} {ws : List V} {its : List Value} {ps : List PyData}, RepDs X.K ct B es ws → Vals ws its → D.pys es = some ps →
    W.EachIs (fun (u : Value) (b : D × V) => ∃ as, Reads h2 u (encD b) as) its (es.zip ws)
  | [], ws, its, ps, rr, ri, e => by
    unfold RepDs at rr; subst rr; cases ri; exact .nil
  | d :: es, ws, its, ps, rr, ri, e => by
    unfold RepDs at rr
    obtain ⟨w, r, rfl, h1, h2⟩ := rr
    cases ri with
    | cons r1 r2 =>
      unfold D.pys at e
      cases q : d.py with
      | none => simp [q] at e
      | some y =>
        cases q2 : D.pys es with
        | none => simp [q, q2] at e
        | some ys =>
          refine .cons ?_ (each_read I sb k h2 r2 q2)
          obtain ⟨as, ra⟩ := reads_of I sb h1 q r1
          refine ⟨as, ?_⟩
          show Reads _ _ (encD (d, w)) as
          have : encD (d, w) = y := by simp [encD, q]
          rw [this]; exact Reads.keeps k ra
theorem each_vals : ∀ {bs : List (D × V)} {out : List Value}, W.EachIs (fun (u : Value) (b : D × V) => RelV b.2 u) out bs → Vals (bs.map (·.2)) out
  | _, _, .nil => .nil
  | _, _, .cons r t => .cons r (each_vals t)
theorem reps_perm {K : PySem.W.Frag} {B : Hp} : ∀ {bs : List (D × V)}, (∀ b ∈ bs, RepD K ct B b.1 b.2) → RepDs K ct B (bs.map (·.1)) (bs.map (·.2))
  | [], _ => RepDs.nil
  | b :: bs, h => RepDs.cons (h b List.mem_cons_self) (reps_perm fun c hc => h c (List.mem_cons_of_mem _ hc))
theorem reps_zip {K : PySem.W.Frag} {B : Hp} : ∀ {es : List D} {ws : List V}, RepDs K ct B es ws → ∀ b ∈ es.zip ws, RepD K ct B b.1 b.2
  | [], _, _, b, hb => by simp at hb
  | d :: es, ws, rr, b, hb => by
    unfold RepDs at rr
    obtain ⟨w, r, rfl, h1, h2⟩ := rr
    rw [List.zip_cons_cons] at hb
    rcases List.mem_cons.mp hb with z | z
    · subst z; exact h1
    · exact reps_zip h2 b z
theorem pys_all {es : List D} {ps : List PyData} (e : D.pys es = some ps) {ws : List V} : ∀ b ∈ es.zip ws, ∃ p, b.1.py = some p := fun b hb => by
  have hm : b.1 ∈ es := (List.of_mem_zip hb).1
  obtain ⟨i, hi, e1⟩ := List.getElem_of_mem hm
  have hpl : i < ps.length := by rw [← pys_len e]; exact hi
  obtain ⟨d, h1, h2⟩ := pys_get e (List.getElem?_eq_getElem hpl)
  rw [List.getElem?_eq_getElem hi] at h1
  cases h1
  rw [e1] at h2
  exact ⟨_, h2⟩
theorem sort_fst {es : List D} {ws : List V} {ps : List PyData} (hl : es.length = ws.length) (e : D.pys es = some ps) :
    ((es.zip ws).mergeSort (W.dataLe false encD)).map (·.1) = ofPys (ps.mergeSort (W.dataLe false id)) := by
  have h1 : ((es.zip ws).mergeSort (W.dataLe false encD)).map encD = ps.mergeSort (W.dataLe false id) := by
    have := List.map_mergeSort (r := W.dataLe false encD) (s := W.dataLe false id) (f := encD) (l := es.zip ws) (fun a _ b _ => rfl)
    rw [this, encD_zip hl e]
  have h2 : ∀ (bs : List (D × V)), (∀ b ∈ bs, ∃ p, b.1.py = some p) → ofPys (bs.map encD) = bs.map (·.1) := by
    intro bs
    induction bs with
    | nil => intro _; simp [ofPys]
    | cons b bs ih =>
      intro hb
      obtain ⟨p, hp⟩ := hb b List.mem_cons_self
      rw [List.map_cons, List.map_cons, ofPys, ih fun c hc => hb c (List.mem_cons_of_mem _ hc)]
      have : encD b = p := by simp [encD, hp]
      rw [this, ofPy_py hp]
  rw [← h1, h2]
  intro b hb
  exact pys_all e b (List.mem_mergeSort.mp hb)
/-- sorted(x) of a list or a tuple -/
theorem sorted_it {β : Type} {prog : Program} {w : World} {A : Around} {E : Value → Shared → Prop} {s : Shared} {it : Addr} {T : String} {o : Obj} {its : List Value} {n : Nat} {bs : List β} {enc : β → PyData} {R : Value → β → Prop} {Q : Value → Shared → Prop} (hT : T = "list" ∨ T = "tuple")
    (ho : s.heap.get? it = some o) (hc : o.cls = .type T) (hd : o.data = .seq its.toArray n) (hz : its.length ≤ sizeLine)
    (e : W.EachIs R its bs) (er : ∀ h1 : Heap, (∀ b u, s.heap.get? b = some u → h1.get? b = some u) → W.EachIs (fun v b => ∃ as, Reads h1 v (enc b) as) its bs)
    (hal : W.AllAlike (bs.map enc)) (hk : W.Sortable (bs.map enc)) (hu : ∀ b ∈ bs, A.units + 2 + (enc b).depth < cLine)
    (h : ∀ (h1 h2 : Heap) (out : List Value) (c : Nat), (∀ b u, s.heap.get? b = some u → h1.get? b = some u) → (∀ b u, h1.get? b = some u → h2.get? b = some u) → h2.get? h1.objs.size = some (seqObj "list" out.toArray c) → W.EachIs R out (bs.mergeSort (W.dataLe false enc)) → Q (.ref h1.objs.size) { s with heap := h2 }) :
    wpAny (model prog w) A (call (.builtin "sorted") [.ref it]) Q E s := by
  refine call_function_entry_kw kind_sorted plain_sorted entry_sorted (args_sorted1 _) ?_
  unfold Builtin.«sorted»
  refine wpAny_bind (m := checkCount "sorted" 1 1 _) (wpAny_pure ?_)
  refine wpAny_bind (wpAny_collect_seq it hT ho hc hd (fun h1 k1 => ?_) (by rw [List.size_toArray]; exact hz))
  refine wpAny_bind (wpAny_newList ?_ (by simpa using hz))
  have hp : (h1.push (seqObj "list" its.toArray 0)).get? h1.objs.size = some (seqObj "list" its.toArray 0) := Heap.get?_push_size _ rfl
  have kp : ∀ b u, s.heap.get? b = some u → (h1.push (seqObj "list" its.toArray 0)).get? b = some u := fun b u hb => Heap.get?_push_of_some _ (k1 b u hb)
  have hne : ∀ b u, s.heap.get? b = some u → b ≠ h1.objs.size := fun b u hb => Nat.ne_of_lt (Heap.lt_size (k1 b u hb))
  show wpAny _ _ _ _ _ { s with heap := h1.push (seqObj "list" its.toArray 0) }
  refine wpAny_bind (wpAny_holding (wpAny_call_entry_kw PyProof.Rows.slot_list_sort ⟨_, hp, rfl⟩ PyProof.Rows.entry_list_sort ?body (PyProof.Rows.args_list_sort _)))
  case body =>
    have er' := er (W.sortingHeap (h1.push (seqObj "list" its.toArray 0)) h1.objs.size its) fun b u hb => W.sortingHeap_old (hne b u hb) (kp b u hb)
    have S := W.SortsAt.data (prog := prog) (w := w) (A := A.in1.in1) (s := { s with heap := W.sortingHeap (h1.push (seqObj "list" its.toArray 0)) h1.objs.size its })
      (W.each_map (R := fun v d => ∃ as, Reads (W.sortingHeap (h1.push (seqObj "list" its.toArray 0)) h1.objs.size its) v d as) enc er') hal hk (W.bound_map hu)
    refine W.list_sort_vals (s := { s with heap := h1.push (seqObj "list" its.toArray 0) }) hp S hz ⟨_, rfl, wpAny_pure ⟨_, rfl, ?_⟩⟩
    obtain ⟨c, hat⟩ := sortedHeap_at (vs := its) (out := (W.sortVals (W.dataKind (W.sortingHeap (h1.push (seqObj "list" its.toArray 0)) h1.objs.size its) (bs.map enc)) false its its).toArray) hp
    refine h h1 _ _ c k1 (fun b u hb => ?_) hat (W.sortVals_data false e er' hal)
    have hb' : (h1.push (seqObj "list" its.toArray 0)).get? b = some u := Heap.get?_push_of_some _ hb
    exact (sortedHeap_old (Nat.ne_of_lt (Heap.lt_size hb)) (Heap.lt_size hb')).trans hb'
theorem srt_ok {ps : List PyData} (h : srtOk ps = true) : W.AllAlike ps ∧ W.Sortable ps ∧ ∀ p ∈ ps, okD p = true := by
  unfold srtOk at h
  rw [Bool.and_eq_true] at h
  obtain ⟨h1, h2⟩ := h
  obtain ⟨al, ok⟩ := okAll_alike h1
  refine ⟨al, ?_, fun p hp => (ok p hp).1⟩
  rw [Bool.or_eq_true] at h2
  rcases h2 with h2 | h2
  · refine .inl fun d hd => ?_
    have := List.all_eq_true.mp h2 d hd
    split at this
    · exact ⟨_, _, rfl⟩
    · cases this
  · refine .inr fun d hd => ⟨(ok d hd).2, fun xs z => ?_⟩
    have := List.all_eq_true.mp h2 d hd
    rw [z] at this
    simp at this
theorem cr_sorted (hu : X.A.units + 64 < cLine) : CallR X (.builtin "sorted") (rFn X.K ct (one sortD)) := by
  intro pins s σ H vs us Q I r h
  obtain ⟨B, ds, m, sb, hd, e, q⟩ := h
  obtain ⟨d, ed, e0⟩ := one_inv e
  subst ed
  clear e
  have e := e0
  clear e0
  obtain ⟨v, rfl, hv⟩ := rd_un hd
  unfold sortD at e
  cases hn : d.items with
  | none => simp [hn] at e
  | some es =>
    simp only [hn] at e
    split at e
    · rename_i ps ep
      split at e
      · rename_i hok
        simp only [Option.some.injEq] at e
        subst e
        rw [Bool.and_eq_true] at hok
        obtain ⟨al, sr, ok⟩ := srt_ok hok.1
        obtain ⟨a, ws, rfl, rr, hs⟩ := rd_items sb hv hn
        have hus := L2.Vals.ref1 r
        subst hus
        have enc := encD_zip rr.length ep
        have dep : ∀ b ∈ es.zip ws, X.A.units + 2 + (encD b).depth < cLine := fun b hb => by
          have hm : encD b ∈ ps := by rw [← enc]; exact List.mem_map.mpr ⟨b, hb, rfl⟩
          have := (okD_plain (ok _ hm)).2
          omega
        have fin : ∀ (its : List Value), Vals ws its → ws.length ≤ sizeLine → ∀ (h1 h2 : Heap) (out : List Value) (c : Nat), (∀ b u, s.heap.get? b = some u → h1.get? b = some u) → (∀ b u, h1.get? b = some u → h2.get? b = some u) → h2.get? h1.objs.size = some (seqObj "list" out.toArray c) →
            W.EachIs (fun (u : Value) (b : D × V) => RelV b.2 u) out ((es.zip ws).mergeSort (W.dataLe false encD)) → L2.EP X pins σ Q (.ref h1.objs.size) { s with heap := h2 } := fun its ri hz h1 h2 out c k1 k2 hat ee => by
          have I1 : Inv X pins σ H { s with heap := h1 } := I.kept (t' := s.toks) k1
          have hp : H h1.objs.size = none := I1.hok.fresh (Nat.le_refl _)
          have hvv := each_vals ee
          have hlen : ((es.zip ws).mergeSort (W.dataLe false encD)).length = ws.length := by rw [List.length_mergeSort, List.length_zip, rr.length, Nat.min_self]
          have rs : RepDs X.K ct B (ofPys (ps.mergeSort (W.dataLe false id))) (((es.zip ws).mergeSort (W.dataLe false encD)).map (·.2)) := by
            rw [← sort_fst rr.length ep]
            exact reps_perm fun b hb => reps_zip rr b (List.mem_mergeSort.mp hb)
          refine ⟨V.ref h1.objs.size, _, I1.laid (t' := s.toks) k2 (Nat.le_refl _) (show L2.ObjOk X.prog X.w _ h2 _ (.lst _) from ⟨?_, out, c, hvv, hat⟩), rfl, q _ _ (new_lst rs hp)⟩
          rw [List.length_map, hlen]; exact hz
        rcases hs with hl | ht
        · obtain ⟨its, ri, pl, hz⟩ := I.list hl
          obtain ⟨o, ho, hc, n, hd⟩ := pl.isList
          exact sorted_it (.inl rfl) ho hc hd (by rw [← ri.length]; exact hz) (each_rel rr.length ri) (fun h1 k => each_read I sb k rr ri ep) (by rw [enc]; exact al) (by rw [enc]; exact sr) dep (fin its ri hz)
        · obtain ⟨its, ri, ⟨o, ho, hc, n, hd⟩, hz⟩ := I.tuple ht
          exact sorted_it (.inr rfl) ho hc hd (by rw [← ri.length]; exact hz) (each_rel rr.length ri) (fun h1 k => each_read I sb k rr ri ep) (by rw [enc]; exact al) (by rw [enc]; exact sr) dep (fin its ri hz)
      · cases e
    · cases e
end
end Ev
set_option Elab.async false
set_option linter.all false
set_option maxRecDepth 100000
set_option maxHeartbeats 1000000
/-! len(set(..)), methods that read, isinstance. -/
namespace Ev
open PySem PySem.Spec PyProof.Rows PySem.Calls
open L2 (V HO Hp SqL SqT Same upd upd_same upd_ne Cx PE PT PA OpR CallR MtR IxR SlR Inv RelV Vals VK Gl)

section
variable {X : Cx} {ct : Str → Option Addr}
theorem nodup_len {xs ys : List Int} (hx : xs.Nodup) (hy : ys.Nodup) (h : ∀ k, k ∈ xs ↔ k ∈ ys) : xs.length = ys.length :=
  ((List.perm_ext_iff_of_nodup hx hy).mpr h).length_eq
theorem starE {e : Expr} {es : List Expr} {env : L2.Cx → Env} : True := trivial
/-- len(set(a)), a's value v -/
def rLenSet (K : PySem.W.Frag) (ct : Str → Option Addr) : V → Hp → VK → Prop := fun v H Q => ∃ B d m, Same B H ∧ RdD K ct B H d v ∧ lenSet d = some m ∧ ∀ v H', NewM K ct B H m v H' → Q v H'
theorem pe_lenSet {a : Expr} {ta : L2.TE} {p p2 q pos : Pos} (hg : Gl X "len") (hm : X.mg "len" = none) (hg2 : Gl X "set") (hm2 : X.mg "set" = none) (ha : PE X a ta) (hc : X.calm = true)
    (na : starEach [a] X.env = (false, eval a X.env) :: starEach [] X.env) : PE X (.Call (.Name "len" p) [.Call (.Name "set" p2) [a] [] q] [] pos) (fun σ H Q => ta σ H fun x H1 => rLenSet X.K ct x H1 Q) := by
  refine ⟨fun pins s σ H Q I h => ?_⟩
  refine Call_ (L2.ld_blt I hg hm boot_len ?_)
  refine PyProof.Rows.callWith_builtin1 (PyProof.Rows.args_cons ?_ rfl) rfl rfl
  refine Call_ (L2.ld_blt I hg2 hm2 boot_set ?_)
  refine PyProof.Rows.callWith_type1 (PyProof.Rows.args_cons (L2.thn (ha.run pins s σ H _ I h) fun v s1 ⟨x, H1, I1, r1, q1⟩ => PyProof.Rows.args_nil ?_) na) na rfl
  obtain ⟨B, d, m, sb, hd, e, q1⟩ := q1
  unfold lenSet at e
  cases hn : d.items with
  | none => simp [hn] at e
  | some es =>
    simp only [hn] at e
    cases hi : asInts es with
    | none => simp [hi] at e
    | some ks =>
      simp only [hi] at e
      split at e
      · rename_i hnd
        simp only [Option.some.injEq] at e
        obtain ⟨l, ws, rfl, rr, hs⟩ := rd_items sb hd hn
        rw [asInts_map hi] at rr
        have ew := rr.ints_inv
        subst e ew
        cases r1
        have hsb : ks.length + 1 < scanBound := by unfold scanBound; omega
        have fin : ∀ (h' : Heap) (tk : Nat) (S : Int → Bool) (n : Nat) (o : Obj) (zs : Array (Int × Value)) (ep : Nat) (t : SetTable), n = ks.length → h'.get? s1.heap.objs.size = some o → o.ExactSet → o.data = .set zs ep t → t.fits zs.size = true → zs.size = n → (∀ b u, s1.heap.get? b = some u → h'.get? b = some u) →
            wpAny (model X.prog X.w) X.A (call (.builtin "len") [.ref s1.heap.objs.size]) (L2.EP X pins σ Q) X.xe { s1 with heap := h', toks := tk } := fun h' tk S n o zs ep t hn2 ho hex hdd hf hsz kk => by
          have I2 : Inv X pins σ H1 { s1 with heap := h', toks := tk } := I1.kept kk
          exact call_len_set (s := { s1 with heap := h', toks := tk }) ho hex hdd hf (by rw [hsz, hn2]; omega) ⟨.int ks.length, H1, I2.tok _, ⟨_, by rw [hsz, hn2]⟩, q1 _ _ (new_d rep_int)⟩
        rcases hs with hl | ht
        · obtain ⟨its, ri, pl, _⟩ := I1.list hl
          have hlen : its.toArray.size = ks.length := by rw [List.size_toArray, ← ri.length, List.length_map]
          refine call_set_list (I1.ok.hd hc) pl.isList (ns := ks) (by simpa using L2.Vals.ints ri) (by rw [hlen]; exact hsb) fun h' tk hS hk => PyProof.Rows.args_nil ?_
          obtain ⟨o, zs, ep, t, ho, hex, hdd, _, _, _, hf, hsz⟩ := hS
          refine fin h' tk (fun _ => true) _ o zs ep t ?_ ho hex hdd hf hsz fun b u hb => hk b u (Heap.lt_size hb) hb
          rw [hlen, RZ.firstMet_nodup hnd.1 ks.length (Nat.le_refl _), List.take_length]
        · obtain ⟨its, ri, pt, _⟩ := I1.tuple ht
          refine L2.call_set_tupI (P := X.prog) ks (I1.ok.hd hc) pt (by simpa using L2.Vals.ints ri) hsb fun h' tk c hS _ hk => PyProof.Rows.args_nil ?_
          obtain ⟨o, zs, ep, t, ho, hex, hdd, _, hnd2, hmem, _, hf, hsz, _⟩ := hS
          refine fin h' tk (fun _ => true) c o zs ep t ?_ ho hex hdd hf hsz hk
          have := nodup_len hnd2 hnd.1 fun k => by rw [← hmem k]; simp
          rw [← hsz, ← this, List.length_map, Array.length_toList]
      · cases e

/-! ### methods that read -/
/-- the receiver's built-in type -/
def tyW (K : PySem.W.Frag) (T : String) (x : V) (H : Hp) : Prop := ∃ p, x = .ref p ∧ ((T = "list" ∧ ∃ xs, SqL K H p xs) ∨ (T = "tuple" ∧ ∃ xs, PTu K H p xs))
theorem tyW_is {pins : List (Addr × Obj)} {σ : L2.St} {H : Hp} {s : Shared} {T : String} {x : V} {v : Value} (I : Inv X pins σ H s) (r : RelV x v) (ty : tyW X.K T x H) :
    s.TypeIs v T ∧ ∀ a, v = .ref a → ∃ ob, s.heap.get? a = some ob ∧ ob.dict = none := by
  obtain ⟨p, rfl, ⟨rfl, xs, hq⟩ | ⟨rfl, xs, hq⟩⟩ := ty
  · cases r
    obtain ⟨its, _, pl, _⟩ := I.list hq
    refine ⟨pl.isList.typeIs, fun a ea => ?_⟩
    cases ea
    obtain ⟨o, n, e, _, hdn, _⟩ := pl
    exact ⟨o, e, hdn⟩
  · cases r
    rcases hq with ⟨its, hq⟩ | ⟨o, its, n, hk, hc, hdn, _⟩
    · obtain ⟨e, _⟩ := I.hok p _ hq
      exact ⟨⟨_, e, rfl⟩, fun a ea => by cases ea; exact ⟨_, e, rfl⟩⟩
    · exact ⟨⟨o, I.kIn p o hk, hc⟩, fun a ea => by cases ea; exact ⟨o, I.kIn _ o hk, hdn⟩⟩
def tBMw (K : PySem.W.Frag) (T : String) (r : V → List V → Hp → VK → Prop) (to : L2.TE) (t : L2.TA) : L2.TE := fun σ H Q => to σ H fun x H1 => tyW K T x H1 ∧ t σ H1 fun xs H2 => r x xs H2 Q
theorem pe_bmw {o e : Expr} {to : L2.TE} {t : L2.TA} {name : Str} {apos cpos : Pos} {T id : String} {r : V → List V → Hp → VK → Prop} (pa : PlainAttrs T) (slot : Slot T name id) (hty : typeOf (.builtin id) = pure (.type "method_descriptor")) (hm : MtR X id r)
    (ho : PE X o to) (ha : PA X [e] t) (hbase : attributeBase o name X.env (eval o X.env) = eval o X.env) (hline : (apos.endLine == cpos.line) = true) (hs : starEach [e] X.env = [(false, eval e X.env)]) :
    PE X (.Call (.Attribute o name apos) [e] [] cpos) (tBMw X.K T r to t) := by
  refine ⟨fun pins s σ H Q I h => ?_⟩
  refine wpAny_Call_method_late hbase (by rw [hs]; rfl) hline rfl (L2.thn (ho.run pins s σ H _ I h) fun v s1 ⟨x, H1, I1, r1, ty, q1⟩ => ?_)
  obtain ⟨k1, k2⟩ := tyW_is I1 r1 ty
  refine ⟨T, id, pa, slot, hty, k1, k2, ?_⟩
  have hA := ha.run cpos pins s1 σ H1 _ I1 q1
  rw [hs] at hA ⊢
  refine Calls.callWith_builtin rfl (Calls.evalArgs_plain ?_)
  exact L2.thn hA fun us s2 ⟨vs, H2, I2, r2, q2⟩ => hm pins s2 σ H2 x vs v us Q I2 r1 r2 q2
/-- what == answers, place by place -/
theorem items_eq {A : Around} {s : Shared} {its : List Value} {ps : List PyData} {as bs : List Addr} {u : Value} {p : PyData} (hr : ReadsAll s.heap its ps as) (ru : Reads s.heap u p bs) (hp : PyData.plainAll ps = true) (hd : p.plain = true) (hu : A.units + 1 + min (PyData.depthAll ps) p.depth < cLine) :
    SeqAt.ItemsEq A.in1 s its (ps.map fun q => PyData.eqv q p) u true := by
  have hl : its.length = ps.length := by
    have := W.readsAll_len (vs := its.toArray) (by simpa using hr)
    simpa using this
  refine ⟨by rw [List.length_map]; exact hl, fun j h1 h2 => ?_⟩
  have hj : j < ps.length := by rw [← hl]; exact h1
  have ha := SeqAt.items_plain (A := A) (vs := its.toArray) (by simpa using hr) ru hp hd hu its[j] (by simp)
  have he : SeqAt.readOf s.heap its[j] = ps[j] := by
    obtain ⟨_, e⟩ := SeqAt.readOf_at (vs := its.toArray) (by simpa using hr) hp j (by simpa using h1)
    simpa using e
  rw [he] at ha
  rw [List.getElem_map]
  have : decide (PyData.eqv ps[j] p = true) = PyData.eqv ps[j] p := by cases PyData.eqv ps[j] p <;> rfl
  rw [this]; exact ha
theorem idx_map {α : Type} {f : α → Bool} : ∀ {xs : List α} {j : Nat}, xs.findIdx? f = some j → (xs.map f).idxOf true = j ∧ true ∈ xs.map f
  | [], _, h => by simp at h
  | x :: xs, j, h => by
    rw [List.findIdx?_cons] at h
    cases e : f x with
    | true =>
      simp [e] at h
      subst h
      simp [e]
    | false =>
      simp only [e, Bool.false_eq_true, if_false, Option.map_eq_some_iff] at h
      obtain ⟨k, hk, rfl⟩ := h
      obtain ⟨h1, h2⟩ := idx_map hk
      refine ⟨?_, List.mem_map.mpr ?_⟩
      · rw [List.map_cons, e, List.idxOf_cons, h1]; rfl
      · obtain ⟨y, hy, hf⟩ := List.mem_map.mp h2
        exact ⟨y, List.mem_cons_of_mem _ hy, hf⟩
def rMth (K : PySem.W.Frag) (ct : Str → Option Addr) (m T : String) : V → List V → Hp → VK → Prop := fun x xs H Q => ∃ B d ds z, Same B H ∧ tyW K T x H ∧ RdD K ct B H d x ∧ RepDs K ct B ds xs ∧ mthD m d ds = some z ∧ ∀ v H', NewM K ct B H z v H' → Q v H'
theorem mth_some {m : String} {d : D} {ds : List D} {z : M} (h : mthD m d ds = some z) : ∃ es y, d.items = some es ∧ ds = [y] ∧ ((m = "index" ∧ ∃ j, idxD y es = some j ∧ z = .d (.int j)) ∨ (m = "count" ∧ ∃ j, cntD y es = some j ∧ z = .d (.int j))) := by
  unfold mthD at h
  split at h
  · rename_i es he
    split at h
    · rename_i y
      refine ⟨es, y, he, rfl, ?_⟩
      split at h
      · rename_i hm
        split at h
        · rename_i j hj; exact .inl ⟨hm, j, hj, (Option.some.inj h).symm⟩
        · cases h
      · split at h
        · rename_i hm
          split at h
          · rename_i j hj; exact .inr ⟨hm, j, hj, (Option.some.inj h).symm⟩
          · cases h
        · cases h
    · cases h
  · cases h
theorem mtr (m T : String) (hu : X.A.units + 64 < cLine) (hmT : (m = "index" ∨ m = "count") ∧ (T = "list" ∨ T = "tuple")) : MtR X (T ++ "." ++ m) (rMth X.K ct m T) := by
  intro pins s σ H x xs v us Q I rx rxs h
  obtain ⟨B, d, ds, z, sb, ty, hd, hds, e, q⟩ := h
  obtain ⟨es, y, e1, rfl, ez⟩ := mth_some e
  obtain ⟨a, ws, rfl, rr, hs⟩ := rd_items sb hd e1
  unfold RepDs at hds
  obtain ⟨w, r', rfl, hy, hr'⟩ := hds
  unfold RepDs at hr'
  subst hr'
  obtain ⟨u, rfl, ru⟩ := L2.vals1 rxs
  cases rx
  obtain ⟨p0, hp0, hty⟩ := ty
  cases hp0
  have core : ∀ (p : PyData) (ps : List PyData), cmpAll y es = some (p, ps) → ∃ bs, Reads s.heap u p bs ∧ D.pys es = some ps ∧ PyData.plainAll ps = true ∧ p.plain = true ∧ X.A.units + 1 + min (PyData.depthAll ps) p.depth < cLine := fun p ps hc => by
    obtain ⟨k1, k2, k3, k4⟩ := cmpAll_some hc
    obtain ⟨bs, rb⟩ := reads_of I sb hy k1 ru
    refine ⟨bs, rb, k3, plainAll_of fun q hq => (okD_plain (k4 q hq)).1, (okD_plain k2).1, ?_⟩
    have := depthAll_le (n := 32) fun q hq => (okD_plain (k4 q hq)).2
    have : min (PyData.depthAll ps) p.depth ≤ 32 := Nat.le_trans (Nat.min_le_left _ _) this
    omega
  have big : (sizeLine : Nat) = 16777216 := sizeLine_eq
  rcases ez with ⟨rfl, j, hj, rfl⟩ | ⟨rfl, j, hj, rfl⟩
  · unfold idxD at hj
    split at hj
    · rename_i p ps hc
      obtain ⟨bs, rb, ep, hp, hd2, hu2⟩ := core p ps hc
      obtain ⟨i1, i2⟩ := idx_map hj
      rcases hty with ⟨rfl, xs', hl⟩ | ⟨rfl, xs', ht⟩
      · rcases hs with hl2 | ht2
        · obtain ⟨its, ri, pl, hz⟩ := I.list hl2
          obtain ⟨as, hr⟩ := readsAll_of I sb rr ep ri
          refine SeqAt.call_list_index pl.isList (items_eq hr rb hp hd2 hu2) (by rw [List.length_map, ← pys_len ep, rr.length]; exact hz) i2 ?_
          exact ⟨.int j, H, I.tok _, ⟨_, by rw [i1]⟩, q _ _ (new_d rep_int)⟩
        · obtain ⟨its, _, ⟨o, n, e3, c3, _, _⟩, _⟩ := I.list hl
          obtain ⟨its2, _, ⟨o2, e4, c4, _⟩, _⟩ := I.tuple ht2
          rw [e3] at e4; cases e4; rw [c3] at c4; exact absurd (Value.type.inj c4) (by decide)
      · rcases hs with hl2 | ht2
        · obtain ⟨its, _, ⟨o, n, e3, c3, _, _⟩, _⟩ := I.list hl2
          obtain ⟨its2, _, ⟨o2, e4, c4, _⟩, _⟩ := I.tuple ht.sq
          rw [e3] at e4; cases e4; rw [c3] at c4; exact absurd (Value.type.inj c4) (by decide)
        · obtain ⟨its, ri, pt, hz⟩ := I.tuple ht2
          obtain ⟨as, hr⟩ := readsAll_of I sb rr ep ri
          refine SeqAt.call_tuple_index pt (items_eq hr rb hp hd2 hu2) i2 ?_
          exact ⟨.int j, H, I.tok _, ⟨_, by rw [i1]⟩, q _ _ (new_d rep_int)⟩
    · cases hj
  · unfold cntD at hj
    split at hj
    · rename_i p ps hc
      simp only [Option.some.injEq] at hj
      subst hj
      obtain ⟨bs, rb, ep, hp, hd2, hu2⟩ := core p ps hc
      rcases hty with ⟨rfl, xs', hl⟩ | ⟨rfl, xs', ht⟩
      · rcases hs with hl2 | ht2
        · obtain ⟨its, ri, pl, hz⟩ := I.list hl2
          obtain ⟨as, hr⟩ := readsAll_of I sb rr ep ri
          exact SeqAt.count_list_data pl.isList (by simpa using hr) rb hp hd2 hu2 ⟨.int _, H, I.tok _, ⟨_, rfl⟩, q _ _ (new_d rep_int)⟩
        · obtain ⟨its, _, ⟨o, n, e3, c3, _, _⟩, _⟩ := I.list hl
          obtain ⟨its2, _, ⟨o2, e4, c4, _⟩, _⟩ := I.tuple ht2
          rw [e3] at e4; cases e4; rw [c3] at c4; exact absurd (Value.type.inj c4) (by decide)
      · rcases hs with hl2 | ht2
        · obtain ⟨its, _, ⟨o, n, e3, c3, _, _⟩, _⟩ := I.list hl2
          obtain ⟨its2, _, ⟨o2, e4, c4, _⟩, _⟩ := I.tuple ht.sq
          rw [e3] at e4; cases e4; rw [c3] at c4; exact absurd (Value.type.inj c4) (by decide)
        · obtain ⟨its, ri, pt, hz⟩ := I.tuple ht2
          obtain ⟨as, hr⟩ := readsAll_of I sb rr ep ri
          exact SeqAt.count_tuple_data pt (by simpa using hr) rb hp hd2 hu2 ⟨.int _, H, I.tok _, ⟨_, rfl⟩, q _ _ (new_d rep_int)⟩
    · cases hj
end
end Ev
set_option Elab.async false
set_option linter.all false
set_option maxRecDepth 100000
set_option maxHeartbeats 1000000
/-! The readings of expressions from the hand layer's. -/
namespace Ev
open PySem PySem.Spec PyProof.Rows PySem.Calls
open L2 (V HO Hp SqL SqT Same upd upd_same upd_ne Cx PE PT PA OpR CallR MtR IxR SlR Inv RelV Vals VK Gl)

section
variable {K : PySem.W.Frag} {ct : Str → Option Addr} {B B' H H' : Hp} {F : List Cell} {σ : L2.St} {τ : TE0}

theorem fin_new {m : M} {e : Env} {v : V} {B0 : Hp} {Q : VK} (st : St K ct B F σ τ H) (sb : Same B0 B) (ee : erE τ = e) (n : NewM K ct B H m v H')
    (q : ∀ v H' B' t τ', Aft K ct B0 F σ m e v H' B' t τ' → Q v H') : Q v H' := by
  obtain ⟨B', t, a⟩ := aft_new st n
  rw [ee] at a
  exact q v H' B' t τ (Aft.of sb a)
theorem fin_d {d : D} {e : Env} {v : V} {B0 : Hp} {Q : VK} (st : St K ct B F σ τ H) (sb : Same B0 B) (ee : erE τ = e) (r : RepD K ct B d v)
    (q : ∀ v H' B' t τ', Aft K ct B0 F σ (.d d) e v H' B' t τ' → Q v H') : Q v H := fin_new st sb ee (new_d r) q
/-- a value, given to all, then what follows -/
theorem e_one {a : SE} {x : M} {e1 : Env} {Q : VK} (st : St K ct B F σ τ H) (ha : a (erE τ) = some (x, e1))
    (k : ∀ v H1 B1 τ1, St K ct B1 F σ τ1 H1 → Same B B1 → erE τ1 = e1 → RepD K ct B1 x.fz v → Q v H1) : TEf K ct a σ H Q :=
  ⟨B, F, τ, st, x, e1, ha, fun v H1 B1 t1 τ1 af => by
    obtain ⟨B2, st2, sb2, _, ee, r⟩ := af.give
    exact k v H1 B2 τ1 st2 sb2 ee r⟩
theorem e_two {a b : SE} {x y : M} {e1 e2 : Env} {r : L2.R2} {Q : VK} (st : St K ct B F σ τ H) (ha : a (erE τ) = some (x, e1)) (hb : b e1 = some (y, e2))
    (k : ∀ v u H2 B2 τ2, St K ct B2 F σ τ2 H2 → Same B B2 → erE τ2 = e2 → RepD K ct B2 x.fz v → RepD K ct B2 y.fz u → r v u H2 Q) : L2.tOp r (TEf K ct a) (TEf K ct b) σ H Q :=
  e_one st ha fun v H1 B1 τ1 st1 sb1 ee1 rv => e_one (Q := fun u H2 => r v u H2 Q) st1 (by rw [ee1]; exact hb) fun u H2 B2 τ2 st2 sb2 ee2 ru => k v u H2 B2 τ2 st2 (sb1.trans sb2) ee2 (rv.mono sb2) ru

theorem e_bin {op : Operator} {a b : SE} {Q : VK} (h : TEf K ct (cBin op a b) σ H Q) : L2.tOp (rOp K ct (binV op)) (TEf K ct a) (TEf K ct b) σ H Q := by
  obtain ⟨B, F, τ, st, m, e', e, q⟩ := h
  unfold cBin at e
  split at e
  · rename_i x e1 ha
    split at e
    · rename_i y e2 hb
      split at e
      · rename_i z hz
        cases e
        exact e_two st ha hb fun v u H2 B2 τ2 st2 sb2 ee rv ru => ⟨B2, _, _, m, st2.wf.sub, rv, ru, hz, fun w H' n => fin_new st2 sb2 ee n q⟩
      · cases e
    · cases e
  · cases e
theorem e_cmp {op : CmpOp} {a b : SE} {Q : VK} (h : TEf K ct (cCmp op a b) σ H Q) : L2.tOp (rCm K ct op) (TEf K ct a) (TEf K ct b) σ H Q := by
  obtain ⟨B, F, τ, st, m, e', e, q⟩ := h
  unfold cCmp at e
  split at e
  · rename_i x e1 ha
    split at e
    · rename_i y e2 hb
      split at e
      · rename_i z hz
        cases e
        exact e_two st ha hb fun v u H2 B2 τ2 st2 sb2 ee rv ru => ⟨B2, _, _, z, st2.wf.sub, rv, ru, hz, fin_d st2 sb2 ee rep_bl q⟩
      · cases e
    · cases e
  · cases e
theorem e_in {neg : Bool} {a b : SE} {Q : VK} (h : TEf K ct (cIn neg a b) σ H Q) : L2.tOp (rIn K ct neg) (TEf K ct a) (TEf K ct b) σ H Q := by
  obtain ⟨B, F, τ, st, m, e', e, q⟩ := h
  unfold cIn at e
  split at e
  · rename_i x e1 ha
    split at e
    · rename_i y e2 hb
      split at e
      · rename_i ys hy
        split at e
        · rename_i z hz
          cases e
          exact e_two st ha hb fun v u H2 B2 τ2 st2 sb2 ee rv ru => ⟨B2, _, _, ys, z, st2.wf.sub, rv, .inl ru, hy, hz, fin_d st2 sb2 ee rep_bl q⟩
        · cases e
      · cases e
    · cases e
  · cases e
/-- what is looked at may be read -/
theorem allD_rep : ∀ {ts : List MA} {xs : List D}, MA.oks K ct B ts → allD (MA.ers ts) = some xs → RepDs K ct B xs (ts.map MA.val)
  | [], xs, _, e => by simp [MA.ers, allD] at e; subst e; exact RepDs.nil
  | .d x v :: ts, xs, h, e => by
    unfold MA.oks at h
    simp only [MA.ers, MA.er, allD] at e
    split at e
    · rename_i ys hy
      cases e
      have h1 := h.1
      unfold MA.ok at h1
      exact RepDs.cons h1 (allD_rep h.2 hy)
    · cases e
  | .lst _ _ :: ts, xs, h, e => by simp [MA.ers, MA.er, allD] at e
  | .obj _ _ _ _ _ _ :: ts, xs, h, e => by simp [MA.ers, MA.er, allD] at e
theorem read_rd {pv : PV} {x : D} {v : V} (st : St K ct B F σ τ H) (e : pv.read (erE τ) = some x) (r : PVr K ct B τ pv v) : RdD K ct B H x v := by
  cases pv with
  | val y =>
    simp only [PV.read, Option.some.injEq] at e
    subst e
    exact .inl r
  | «at» i p =>
    obtain ⟨t, s, ht, hs, hv⟩ := r
    simp only [PV.read] at e
    rw [at_erE ht hs] at e
    cases s with
    | d y w => simp [MA.er] at e
    | obj c C dx a ns ts => simp [MA.er] at e
    | lst a ts =>
      simp only [MA.er] at e
      split at e
      · rename_i xs hx
        cases e
        have hok := ok_sub hs (st.ok i t ht)
        unfold MA.ok at hok
        exact .inr ⟨a, _, xs, rfl, hv.symm, cell_of st ht hs (a, _) (by simp [MA.cells]), allD_rep hok hx⟩
      · cases e
/-- a look that is read, then what follows -/
theorem k_read {k : SK} {pv : PV} {x : D} {Q : VK} (st : St K ct B F σ τ H) (hk : k (erE τ) = some pv) (hr : pv.read (erE τ) = some x) (q : ∀ v, RdD K ct B H x v → Q v H) : TKf K ct k σ H Q :=
  ⟨B, F, τ, st, pv, hk, fun v hv => q v (read_rd st hr hv)⟩
theorem p_one {a : SP} {x : D} {Q : VK} (st : St K ct B F σ τ H) (ha : a (erE τ) = some x) (q : ∀ v, RepD K ct B x v → Q v H) : TPf K ct a σ H Q := ⟨B, F, τ, st, x, ha, q⟩
theorem e_inK {neg : Bool} {a : SP} {k : SK} {Q : VK} (h : TEf K ct (cInK neg a k) σ H Q) : L2.tOp (rIn K ct neg) (TPf K ct a) (TKf K ct k) σ H Q := by
  obtain ⟨B, F, τ, st, m, e', e, q⟩ := h
  unfold cInK at e
  split at e
  · rename_i x ha
    split at e
    · rename_i pv hk
      split at e
      · rename_i y hr
        split at e
        · rename_i ys hy
          split at e
          · rename_i z hz
            cases e
            exact p_one st ha fun v rv => k_read (Q := fun u H2 => rIn K ct neg v u H2 Q) st hk hr fun u ru => ⟨B, _, _, ys, z, st.wf.sub, rv, ru, hy, hz, fin_d st (Same.refl _) rfl rep_bl q⟩
          · cases e
        · cases e
      · cases e
    · cases e
  · cases e
theorem e_neg {a : SE} {Q : VK} (h : TEf K ct (cNeg a) σ H Q) : L2.tUn (L2.rU fun i => .int (-i)) (TEf K ct a) σ H Q := by
  obtain ⟨B, F, τ, st, m, e', e, q⟩ := h
  unfold cNeg at e
  split at e
  · rename_i i e1 ha
    cases e
    exact e_one st ha fun v H1 B1 τ1 st1 sb1 ee rv => by
      simp only [M.fz] at rv
      unfold RepD at rv
      exact ⟨i, rv, fin_d st1 sb1 ee rep_int q⟩
  · cases e
theorem p_neg {a : SP} {Q : VK} (h : TPf K ct (pNeg a) σ H Q) : L2.tUn (L2.rU fun i => .int (-i)) (TPf K ct a) σ H Q := by
  obtain ⟨B, F, τ, st, x, e, q⟩ := h
  unfold pNeg at e
  split at e
  · rename_i i ha
    cases e
    exact p_one st ha fun v rv => by
      unfold RepD at rv
      exact ⟨i, rv, q _ rep_int⟩
  · cases e
theorem p_bin {op : Operator} {a b : SP} {Q : VK} (h : TPf K ct (pBin op a b) σ H Q) : L2.tOp (rOp K ct (binV op)) (TPf K ct a) (TPf K ct b) σ H Q := by
  obtain ⟨B, F, τ, st, x, e, q⟩ := h
  unfold pBin at e
  split at e
  · rename_i i ha
    split at e
    · rename_i j hb
      split at e
      · rename_i z hz
        cases e
        refine p_one st ha fun v rv => p_one (Q := fun u H2 => rOp K ct (binV op) v u H2 Q) st hb fun u ru => ⟨B, _, _, .d (.int z), st.wf.sub, rv, ru, by simp only [binV, hz], fun w H' n => ?_⟩
        rcases n with ⟨rfl, n⟩ | ⟨_, _, _, _, n, _⟩
        · exact q w n
        · cases n
      · cases e
    · cases e
  · cases e
theorem e_and {a b : SE} {Q : VK} (h : TEf K ct (cAnd a b) σ H Q) : L2.tAndV (TEf K ct a) (TEf K ct b) σ H Q := by
  obtain ⟨B, F, τ, st, m, e', e, q⟩ := h
  unfold cAnd at e
  split at e
  · rename_i x e1 ha
    refine e_one st ha fun v H1 B1 τ1 st1 sb1 ee rv => ?_
    simp only [M.fz] at rv
    unfold RepD at rv
    refine ⟨x, rv, ?_⟩
    cases x with
    | true =>
      simp only [if_true] at e ⊢
      exact ⟨B1, F, τ1, st1, m, e', by rw [ee]; exact e, fun v H' B' t τ' af => q v H' B' t τ' (Aft.of sb1 af)⟩
    | false =>
      simp only [Bool.false_eq_true, if_false, Option.some.injEq, Prod.mk.injEq] at e ⊢
      obtain ⟨rfl, rfl⟩ := e
      exact fin_d st1 sb1 ee rep_bl q
  · cases e
theorem e_or {a b : SE} {Q : VK} (h : TEf K ct (cOr a b) σ H Q) : L2.tOrV (TEf K ct a) (TEf K ct b) σ H Q := by
  obtain ⟨B, F, τ, st, m, e', e, q⟩ := h
  unfold cOr at e
  split at e
  · rename_i x e1 ha
    refine e_one st ha fun v H1 B1 τ1 st1 sb1 ee rv => ?_
    simp only [M.fz] at rv
    unfold RepD at rv
    refine ⟨x, rv, ?_⟩
    cases x with
    | false =>
      simp only [Bool.false_eq_true, if_false] at e ⊢
      exact ⟨B1, F, τ1, st1, m, e', by rw [ee]; exact e, fun v H' B' t τ' af => q v H' B' t τ' (Aft.of sb1 af)⟩
    | true =>
      simp only [if_true, Option.some.injEq, Prod.mk.injEq] at e ⊢
      obtain ⟨rfl, rfl⟩ := e
      exact fin_d st1 sb1 ee rep_bl q
  · cases e
theorem e_not {a : SE} {Q : VK} (h : TEf K ct (cNot a) σ H Q) : L2.tNotV (TEf K ct a) σ H Q := by
  obtain ⟨B, F, τ, st, m, e', e, q⟩ := h
  unfold cNot at e
  split at e
  · rename_i x e1 ha
    cases e
    exact e_one st ha fun v H1 B1 τ1 st1 sb1 ee rv => by
      simp only [M.fz] at rv
      unfold RepD at rv
      exact ⟨x, rv, fin_d st1 sb1 ee rep_bl q⟩
  · cases e
theorem e_if {t : ST} {a b : SE} {Q : VK} (h : TEf K ct (cIf t a b) σ H Q) : L2.tIf (TTf K ct t) (TEf K ct a) (TEf K ct b) σ H Q := by
  obtain ⟨B, F, τ, st, m, e', e, q⟩ := h
  unfold cIf at e
  split at e
  · rename_i x e1 ht
    refine ⟨B, F, τ, st, x, e1, ht, fun H1 B1 τ1 af => ?_⟩
    cases x with
    | true =>
      simp only [if_true] at e ⊢
      exact ⟨B1, F, τ1, af.st, m, e', by rw [af.ee]; exact e, fun v H' B' t τ' g => q v H' B' t τ' (Aft.of af.sb g)⟩
    | false =>
      simp only [Bool.false_eq_true, if_false] at e ⊢
      exact ⟨B1, F, τ1, af.st, m, e', by rw [af.ee]; exact e, fun v H' B' t τ' g => q v H' B' t τ' (Aft.of af.sb g)⟩
  · cases e

/-! ### lists of expressions -/
theorem a_nil {Q : List V → Hp → Prop} (h : TAf K ct [] σ H Q) : L2.tNil σ H Q := by
  obtain ⟨B, F, τ, st, ms, e', e, q⟩ := h
  simp only [evL, Option.some.injEq, Prod.mk.injEq] at e
  obtain ⟨rfl, rfl⟩ := e
  exact q [] H B [] τ ⟨by simpa [MA.cellsL] using st, by unfold MA.oks; trivial, Same.refl _, rfl, by simp [MA.ers], rfl⟩
theorem a_cons {c : SE} {cs : List SE} {Q : List V → Hp → Prop} (h : TAf K ct (c :: cs) σ H Q) : L2.tCons (TEf K ct c) (TAf K ct cs) σ H Q := by
  obtain ⟨B, F, τ, st, ms, e', e, q⟩ := h
  unfold evL at e
  split at e
  · rename_i m e1 hc
    split at e
    · rename_i ms' e2 hr
      cases e
      refine ⟨B, F, τ, st, m, e1, hc, fun v H1 B1 t1 τ1 af => ⟨B1, t1.cells ++ F, τ1, af.st, ms', _, by rw [af.ee]; exact hr, fun vs H2 B2 ts τ2 al => ?_⟩⟩
      refine q _ H2 B2 (t1 :: ts) τ2 ⟨?_, ?_, af.sb.trans al.sb, al.ee, by simp [MA.ers, af.em, al.em], by simp [af.ev, al.ev]⟩
      · refine ⟨al.st.wf.perm (List.Perm.append_left _ ?_), al.st.ok, al.st.rel⟩
        simp only [MA.cellsL]
        rw [← List.append_assoc]
        exact List.Perm.append_right _ List.perm_append_comm
      · unfold MA.oks
        exact ⟨af.ok.mono al.sb, al.ok⟩
    · cases e
  · cases e
/-- a tuple written out -/
def tTup (t : L2.TA) : L2.TE := fun σ H Q => t σ H fun xs H1 => xs.length ≤ sizeLine ∧ ∀ p its, H1 p = none → Q (.ref p) (upd H1 p (HOt its xs))
theorem pe_tup {X : Cx} {es : List Expr} {t : L2.TA} {x1 : Nat} {pos : Pos} (h : PA X es t) : PE X (.Tuple es x1 pos) (tTup t) := by
  refine ⟨fun pins s σ H Q I hq => ?_⟩
  refine wpAny_Tuple_spliced (L2.thn (h.run pos pins s σ H _ I hq) fun us s1 ⟨xs, H1, I1, r, z, q⟩ => ⟨by rw [← r.length]; exact z, ?_⟩)
  exact ⟨V.ref s1.heap.objs.size, _, tup_laid (t' := s1.toks) I1 r z, rfl, q _ us (I1.hok.fresh (Nat.le_refl _))⟩
theorem e_tup {cs : List SE} {Q : VK} (h : TEf K ct (cTup cs) σ H Q) : tTup (TAf K ct cs) σ H Q := by
  obtain ⟨B, F, τ, st, m, e', e, q⟩ := h
  unfold cTup at e
  split at e
  · rename_i ms e1 hc
    split at e
    · rename_i hl
      cases e
      refine ⟨B, F, τ, st, ms, _, hc, fun vs H1 B1 ts τ1 al => ?_⟩
      obtain ⟨B2, st2, sb2, _, ee, r⟩ := al.give
      refine ⟨?_, fun p its hp => fin_new st2 sb2 ee (new_tup (its := its) r hp) q⟩
      rw [← r.length, M.fzs_map, List.length_map, line_eq]; exact hl
    · cases e
  · cases e
theorem e_lst {cs : List SE} {Q : VK} (h : TEf K ct (cLst cs) σ H Q) : L2.tLst (TAf K ct cs) σ H Q := by
  obtain ⟨B, F, τ, st, m, e', e, q⟩ := h
  unfold cLst at e
  split at e
  · rename_i ms e1 hc
    split at e
    · rename_i hl
      cases e
      refine ⟨B, F, τ, st, ms, _, hc, fun vs H1 B1 ts τ1 al => ?_⟩
      have hv := al.ev
      have hm := al.em
      refine ⟨?_, fun p hp => q _ _ B1 (.lst p ts) τ1 ⟨?_, ?_, al.sb, al.ee, ?_, rfl⟩⟩
      · rw [← hv, List.length_map, line_eq]
        rw [← hm, ers_map, List.length_map] at hl
        exact hl
      · refine St.ofFront ?_ al.st.ok al.st.rel
        simp only [MA.cells]
        rw [hv]
        exact (al.st.front.owned hp)
      · unfold MA.ok; exact al.ok
      · simp only [MA.er, hm]
    · cases e
  · cases e

/-! ### subscripts, slices, attributes -/
theorem e_ix {a b : SE} {Q : VK} (h : TEf K ct (cIx a b) σ H Q) : L2.tOp (rIxD K ct) (TEf K ct a) (TEf K ct b) σ H Q := by
  obtain ⟨B, F, τ, st, m, e', e, q⟩ := h
  unfold cIx at e
  split at e
  · rename_i x e1 ha
    split at e
    · rename_i i e2 hb
      split at e
      · rename_i z hz
        cases e
        refine e_two st ha hb fun v u H2 B2 τ2 st2 sb2 ee rv ru => ?_
        simp only [M.fz] at ru
        unfold RepD at ru
        exact ⟨B2, _, i, z, st2.wf.sub, .inl rv, ru, hz, fun w hw => fin_d st2 sb2 ee hw q⟩
      · cases e
    · cases e
  · cases e
def tOptI (c : Option SE) : L2.TO := match c with
  | none => L2.tNoPart
  | some c => L2.tPart (TEf K ct c)
theorem e_opt {c : Option SE} {e1 : Env} {i : Option Int} {Q : Option Int → Hp → Prop} (st : St K ct B F σ τ H) (h : optI c (erE τ) = some (i, e1))
    (k : ∀ H1 B1 τ1, St K ct B1 F σ τ1 H1 → Same B B1 → erE τ1 = e1 → Q i H1) : tOptI (K := K) (ct := ct) c σ H Q := by
  cases c with
  | none =>
    simp only [optI, Option.some.injEq, Prod.mk.injEq] at h
    obtain ⟨rfl, rfl⟩ := h
    exact k H B τ st (Same.refl _) rfl
  | some c =>
    simp only [optI] at h
    split at h
    · rename_i j e2 hc
      cases h
      refine e_one st hc fun v H1 B1 τ1 st1 sb1 ee rv => ?_
      simp only [M.fz] at rv
      unfold RepD at rv
      exact ⟨j, rv, k H1 B1 τ1 st1 sb1 ee⟩
    · cases h
theorem e_sl {a : SE} {lo hi : Option SE} {Q : VK} (h : TEf K ct (cSl a lo hi) σ H Q) : L2.tSl (rSlD K ct) (TEf K ct a) (tOptI (K := K) (ct := ct) lo) (tOptI (K := K) (ct := ct) hi) σ H Q := by
  obtain ⟨B, F, τ, st, m, e', e, q⟩ := h
  unfold cSl at e
  split at e
  · rename_i x e1 ha
    split at e
    · rename_i l e2 hl
      split at e
      · rename_i u e3 hu
        split at e
        · rename_i z hz
          cases e
          exact e_one st ha fun v H1 B1 τ1 st1 sb1 ee1 rv => e_opt st1 (by rw [ee1]; exact hl) fun H2 B2 τ2 st2 sb2 ee2 => e_opt st2 (by rw [ee2]; exact hu) fun H3 B3 τ3 st3 sb3 ee3 =>
            ⟨B3, _, m, st3.wf.sub, .inl ((rv.mono sb2).mono sb3), hz, fun w H' n => fin_new st3 ((sb1.trans sb2).trans sb3) ee3 n q⟩
        · cases e
      · cases e
    · cases e
  · cases e
theorem e_fld {a : SE} {f : Str} {Q : VK} (h : TEf K ct (cFld a f) σ H Q) : L2.tFld K (TEf K ct a) f σ H Q := by
  obtain ⟨B, F, τ, st, m, e', e, q⟩ := h
  unfold cFld at e
  split at e
  · rename_i x e1 ha
    refine e_one st ha fun v H1 B1 τ1 st1 sb1 ee1 rv => ?_
    split at e
    · rename_i c ns xs hx
      rw [hx] at rv
      unfold RepD at rv
      obtain ⟨p, C, dx, vs, rfl, oc, hB, hl, hr⟩ := rv
      split at e
      · rename_i j hj
        split at e
        · rename_i y hy
          cases e
          obtain ⟨u, hu, ru⟩ := hr.get hy
          have hf : f ∈ ns := by
            unfold fIx at hj
            obtain ⟨h1, h2, _⟩ := List.findIdx?_eq_some_iff_getElem.mp hj
            have e2 : ns[j] = f := by simpa using h2
            rw [← e2]; exact List.getElem_mem _
          exact ⟨p, C, dx, ns.zip vs, u, rfl, st1.wf.sub _ _ hB, oc.cls, oc.na f hf, fIx_lookup hj hu, fin_d st1 sb1 ee1 ru q⟩
        · cases e
      · cases e
    · cases e
  · cases e

/-! ### built-in functions -/
theorem e_bK {f : D → Option M} {k : SK} {Q : VK} (h : TEf K ct (bK f k) σ H Q) : L2.tCB (rFn K ct (one f)) (L2.tCons (TKf K ct k) L2.tNil) σ H Q := by
  obtain ⟨B, F, τ, st, m, e', e, q⟩ := h
  unfold bK at e
  split at e
  · rename_i pv hk
    split at e
    · rename_i x hr
      split at e
      · rename_i z hz
        cases e
        exact k_read st hk hr fun v hv => ⟨B, [x], m, st.wf.sub, rd_one hv, by simpa [one] using hz, fun w H' n => fin_new st (Same.refl _) rfl n q⟩
      · cases e
    · cases e
  · cases e
theorem e_bV {f : List D → Option M} {cs : List SE} {Q : VK} (h : TEf K ct (bV f cs) σ H Q) : L2.tCB (rFn K ct f) (TAf K ct cs) σ H Q := by
  obtain ⟨B, F, τ, st, m, e', e, q⟩ := h
  unfold bV at e
  split at e
  · rename_i ms e1 hc
    split at e
    · rename_i z hz
      cases e
      refine ⟨B, F, τ, st, ms, _, hc, fun vs H1 B1 ts τ1 al => ?_⟩
      obtain ⟨B2, st2, sb2, _, ee, r⟩ := al.give
      exact ⟨B2, _, m, st2.wf.sub, r.rd, hz, fun w H' n => fin_new st2 sb2 ee n q⟩
    · cases e
  · cases e
theorem p_len {k : SK} {Q : VK} (h : TPf K ct (pLen k) σ H Q) : L2.tCB (fun xs H Q => ∃ p ys, xs = [.ref p] ∧ (SqL K H p ys ∨ SqT K H p ys) ∧ Q (.int ys.length) H) (L2.tCons (TKf K ct k) L2.tNil) σ H Q := by
  obtain ⟨B, F, τ, st, x, e, q⟩ := h
  unfold pLen at e
  split at e
  · rename_i pv hk
    split at e
    · rename_i n hn
      cases e
      refine ⟨B, F, τ, st, pv, hk, fun v hv => ?_⟩
      cases pv with
      | val y =>
        simp only [PV.len] at hn
        obtain ⟨es, e1, rfl⟩ := len_items hn
        obtain ⟨a, ws, rfl, rr, hs⟩ := rd_items st.wf.sub (.inl hv : RdD K ct B H y v) e1
        exact ⟨a, ws, rfl, hs, by rw [← rr.length]; exact q _ rep_int⟩
      | «at» i p =>
        obtain ⟨t, s, ht, hs, hv⟩ := hv
        simp only [PV.len] at hn
        rw [at_erE ht hs] at hn
        cases s with
        | d y w => simp [MA.er] at hn
        | obj c C dx a ns ts => simp [MA.er] at hn
        | lst a ts =>
          simp only [MA.er, Option.some.injEq, ers_map, List.length_map] at hn
          have hv2 : V.ref a = v := hv
          subst hv2 hn
          refine ⟨a, ts.map MA.val, rfl, .inl (SqL.of (cell_of st ht hs (a, _) (by simp [MA.cells]))), ?_⟩
          rw [List.length_map]
          exact q _ rep_int
    · cases e
  · cases e
theorem e_lenSet {c : SE} {Q : VK} (h : TEf K ct (bV (one lenSet) [c]) σ H Q) : (fun σ H Q => TEf K ct c σ H fun x H1 => rLenSet K ct x H1 Q) σ H Q := by
  obtain ⟨B, F, τ, st, m, e', e, q⟩ := h
  unfold bV at e
  split at e
  · rename_i ms e1 hc
    simp only [evL] at hc
    split at hc
    · rename_i x e2 hx
      cases hc
      split at e
      · rename_i z hz
        cases e
        exact e_one st hx fun v H1 B1 τ1 st1 sb1 ee rv => ⟨B1, _, m, st1.wf.sub, .inl rv, by simpa [M.fzs, one] using hz, fun w H' n => fin_new st1 sb1 ee n q⟩
      · cases e
    · cases hc
  · cases e
theorem e_lenSetK {k : SK} {Q : VK} (h : TEf K ct (bK lenSet k) σ H Q) : (fun σ H Q => TKf K ct k σ H fun x H1 => rLenSet K ct x H1 Q) σ H Q := by
  obtain ⟨B, F, τ, st, m, e', e, q⟩ := h
  unfold bK at e
  split at e
  · rename_i pv hk
    split at e
    · rename_i x hr
      split at e
      · rename_i z hz
        cases e
        exact k_read st hk hr fun v hv => ⟨B, x, m, st.wf.sub, hv, hz, fun w H' n => fin_new st (Same.refl _) rfl n q⟩
      · cases e
    · cases e
  · cases e
end
end Ev
set_option Elab.async false
set_option linter.all false
set_option maxRecDepth 100000
set_option maxHeartbeats 1000000
/-! More expressions: subscripts by a look, methods, isinstance, list(range(..)); tests. -/
namespace Ev
open PySem PySem.Spec PyProof.Rows PySem.Calls
open L2 (V HO Hp SqL SqT Same upd upd_same upd_ne Cx PE PT PA PW OpR CallR MtR IxR SlR Inv RelV Vals VK Gl)

section
variable {K : PySem.W.Frag} {ct : Str → Option Addr} {B B' H H' : Hp} {F : List Cell} {σ : L2.St} {τ : TE0}

theorem Wf.junk {cs : List Cell} {p : Addr} {o : HO} (h : Wf B cs H) (hp : H p = none) : Wf B cs (upd H p o) := by
  have w := Wf.owned (o := o) h hp
  exact ⟨w.sub, fun c hc => w.own c (List.mem_cons_of_mem _ hc), h.nd⟩
theorem St.junk {p : Addr} {o : HO} (h : St K ct B F σ τ H) (hp : H p = none) : St K ct B F σ τ (upd H p o) := ⟨h.wf.junk hp, h.ok, h.rel⟩

/-! ### name[b] -/
def rIxV (K : PySem.W.Frag) (ct : Str → Option Addr) : L2.R2 := fun x y H Q => rIxD K ct x y H Q ∨ L2.rIxL K x y H Q
theorem ixv {X : Cx} : IxR X (rIxV X.K ct) := by
  intro ea eb pins s σ H x y v u Q I rx ry h hsub
  rcases h with h | h
  · exact ixr ea eb pins s σ H x y v u Q I rx ry h hsub
  · exact L2.ix_list ea eb pins s σ H x y v u Q I rx ry h hsub
theorem e_ixv {i : Nat} {b : SE} {Q : VK} (h : TEf K ct (cIxV i b) σ H Q) : L2.tOp (rIxV K ct) (L2.tVar i) (TEf K ct b) σ H Q := by
  obtain ⟨B, F, τ, st, m, e', e, q⟩ := h
  unfold cIxV at e
  split at e
  · cases e
  · rename_i m0 h0
    obtain ⟨t0, ht0, _⟩ := erE_slot h0
    have hσ := st.rel.at_ i t0 ht0
    split at e
    · rename_i n e1 hb
      refine ⟨t0.val, hσ, ?_⟩
      refine e_one (Q := fun u H2 => rIxV K ct t0.val u H2 Q) st hb fun u H1 B1 τ1 st1 sb1 ee ru => ?_
      simp only [M.fz] at ru
      unfold RepD at ru
      subst ru
      rw [← ee] at e
      split at e
      · rename_i x hx
        split at e
        · rename_i y hy
          cases e
          obtain ⟨t, ht, het⟩ := erE_slot hx
          have hv : t.val = t0.val := by
            have := st1.rel.at_ i t ht
            rw [hσ] at this
            exact (Option.some.inj (Option.some.inj this)).symm
          cases t with
          | d x' v =>
            simp only [MA.er, M.d.injEq] at het
            subst het
            have hok := st1.ok i _ ht
            unfold MA.ok at hok
            simp only [MA.val] at hv
            rw [hv] at hok
            exact .inl ⟨B1, x', n, y, st1.wf.sub, .inl hok, rfl, hy, fun w hw => fin_d st1 sb1 rfl hw q⟩
          | lst a ts => simp [MA.er] at het
          | obj c C dx a ns ts => simp [MA.er] at het
        · cases e
      · rename_i ms hx
        split at e
        · rename_i y hy
          cases e
          obtain ⟨t, ht, het⟩ := erE_slot hx
          have hv : t.val = t0.val := by
            have := st1.rel.at_ i t ht
            rw [hσ] at this
            exact (Option.some.inj (Option.some.inj this)).symm
          cases t with
          | d x' v => simp [MA.er] at het
          | lst a ts =>
            simp only [MA.er, M.lst.injEq] at het
            subst het
            have hok := st1.ok i _ ht
            unfold MA.ok at hok
            unfold L2.atI at hy
            rw [ers_map, List.length_map] at hy
            cases hj : L2.ixN ts.length n with
            | none => simp [hj] at hy
            | some j =>
              rw [hj] at hy
              have hy2 : (ts.map MA.er)[j]? = some (M.d y) := hy
              rw [List.getElem?_map, Option.map_eq_some_iff] at hy2
              obtain ⟨u, hu, eu⟩ := hy2
              have uok := oks_iff.mp hok u (List.mem_of_getElem? hu)
              cases u with
              | d y' w =>
                simp only [MA.er, M.d.injEq] at eu
                subst eu
                unfold MA.ok at uok
                have hc : H1 a = some (.lst (ts.map MA.val)) := cell_of (p := []) st1 ht rfl (a, _) (by simp [MA.cells])
                refine .inr ⟨a, ts.map MA.val, n, w, hv.symm, rfl, SqL.of hc, ?_, fin_d st1 sb1 rfl uok q⟩
                unfold L2.atI
                rw [List.length_map, hj]
                show (ts.map MA.val)[j]? = _
                rw [List.getElem?_map, hu]; rfl
              | lst _ _ => simp [MA.er] at eu
              | obj _ _ _ _ _ _ => simp [MA.er] at eu
          | obj c C dx a ns ts => simp [MA.er] at het
        · cases e
      · cases e
    · cases e

/-! ### methods that read -/
def tMth (K : PySem.W.Frag) (ct : Str → Option Addr) (m : String) (to : L2.TE) (t : L2.TA) : L2.TE := fun σ H Q => to σ H fun x H1 => ∃ T, (T = "list" ∨ T = "tuple") ∧ tyW K T x H1 ∧ t σ H1 fun xs H2 => rMth K ct m T x xs H2 Q
theorem pe_mth {X : Cx} {o e : Expr} {to : L2.TE} {t : L2.TA} {m : String} {apos cpos : Pos} (hm : m = "index" ∨ m = "count") (hu : X.A.units + 64 < cLine)
    (ho : PE X o to) (ha : PA X [e] t) (hbase : attributeBase o (Str.ofString m) X.env (eval o X.env) = eval o X.env) (hline : (apos.endLine == cpos.line) = true) (hs : starEach [e] X.env = [(false, eval e X.env)]) :
    PE X (.Call (.Attribute o (Str.ofString m) apos) [e] [] cpos) (tMth X.K ct m to t) := by
  refine ⟨fun pins s σ H Q I h => ?_⟩
  refine wpAny_Call_method_late hbase (by rw [hs]; rfl) hline rfl (L2.thn (ho.run pins s σ H _ I h) fun v s1 ⟨x, H1, I1, r1, T, hT, ty, q1⟩ => ?_)
  obtain ⟨k1, k2⟩ := tyW_is I1 r1 ty
  have base : ∃ id, PlainAttrs T ∧ Slot T (Str.ofString m) id ∧ typeOf (.builtin id) = pure (.type "method_descriptor") ∧ MtR X id (rMth X.K ct m T) := by
    refine ⟨T ++ "." ++ m, ?_⟩
    rcases hm with rfl | rfl <;> rcases hT with rfl | rfl
    · exact ⟨F.plainAttrs_list, F.slot_list_index, F.type_list_index, mtr _ _ hu ⟨.inl rfl, .inl rfl⟩⟩
    · exact ⟨F.plainAttrs_tuple, F.slot_tuple_index, F.type_tuple_index, mtr _ _ hu ⟨.inl rfl, .inr rfl⟩⟩
    · exact ⟨F.plainAttrs_list, F.slot_list_count, F.type_list_count, mtr _ _ hu ⟨.inr rfl, .inl rfl⟩⟩
    · exact ⟨F.plainAttrs_tuple, F.slot_tuple_count, F.type_tuple_count, mtr _ _ hu ⟨.inr rfl, .inr rfl⟩⟩
  obtain ⟨id, pa, slot, hty, hmt⟩ := base
  refine ⟨T, id, pa, slot, hty, k1, k2, ?_⟩
  have hA := ha.run cpos pins s1 σ H1 _ I1 q1
  rw [hs] at hA ⊢
  refine Calls.callWith_builtin rfl (Calls.evalArgs_plain ?_)
  exact L2.thn hA fun us s2 ⟨vs, H2, I2, r2, q2⟩ => hmt pins s2 σ H2 x vs v us Q I2 r1 r2 q2
def tyT : D → String
  | .tup _ => "tuple"
  | _ => "list"
theorem tyT_or (d : D) : tyT d = "list" ∨ tyT d = "tuple" := by cases d <;> simp [tyT]
theorem tyW_of {d : D} {es : List D} {v : V} (h : RdD K ct B H d v) (sb : Same B H) (e : d.items = some es) : tyW K (tyT d) v H := by
  rcases h with h | ⟨a, vs, ds, rfl, rfl, hc, _⟩
  · cases d with
    | tup ds =>
      unfold RepD at h
      obtain ⟨a, vs, rfl, hp, _⟩ := h
      exact ⟨a, rfl, .inr ⟨rfl, vs, hp.mono sb⟩⟩
    | lst ds =>
      unfold RepD at h
      obtain ⟨a, vs, rfl, hp, _⟩ := h
      exact ⟨a, rfl, .inl ⟨rfl, vs, SqL.of (sb _ _ hp)⟩⟩
    | frl ds =>
      unfold RepD at h
      obtain ⟨a, vs, rfl, hp, _⟩ := h
      exact ⟨a, rfl, .inl ⟨rfl, vs, sb.seq hp⟩⟩
    | _ => simp [D.items] at e
  · exact ⟨a, rfl, .inl ⟨rfl, vs, SqL.of hc⟩⟩
theorem mth_items {m : String} {d : D} {ds : List D} {z : M} (h : mthD m d ds = some z) : ∃ es, d.items = some es := by
  obtain ⟨es, _, h1, _⟩ := mth_some h
  exact ⟨es, h1⟩
theorem e_mV {m : String} {a : SE} {cs : List SE} {Q : VK} (h : TEf K ct (mV m a cs) σ H Q) : tMth K ct m (TEf K ct a) (TAf K ct cs) σ H Q := by
  obtain ⟨B, F, τ, st, m', e', e, q⟩ := h
  unfold mV at e
  split at e
  · rename_i x e1 ha
    split at e
    · rename_i ms e2 hc
      split at e
      · rename_i z hz
        cases e
        obtain ⟨es, hes⟩ := mth_items hz
        refine e_one st ha fun v H1 B1 τ1 st1 sb1 ee rv => ?_
        refine ⟨tyT x.fz, tyT_or _, tyW_of (.inl rv) st1.wf.sub hes, B1, F, τ1, st1, ms, _, by rw [ee]; exact hc, fun vs H2 B2 ts τ2 al => ?_⟩
        obtain ⟨B3, st3, sb3, _, ee3, r⟩ := al.give
        exact ⟨B3, _, _, m', st3.wf.sub, tyW_of (.inl (rv.mono sb3)) st3.wf.sub hes, .inl (rv.mono sb3), r, hz, fun w H' n => fin_new st3 (sb1.trans sb3) ee3 n q⟩
      · cases e
    · cases e
  · cases e
/-- pure arguments -/
def TQf (K : PySem.W.Frag) (ct : Str → Option Addr) (qs : List SP) : L2.TA := fun σ H Q => ∃ B F τ, St K ct B F σ τ H ∧ ∃ xs, evP qs (erE τ) = some xs ∧ ∀ vs, RepDs K ct B xs vs → Q vs H
theorem q_nil {Q : List V → Hp → Prop} (h : TQf K ct [] σ H Q) : L2.tNil σ H Q := by
  obtain ⟨B, F, τ, st, xs, e, q⟩ := h
  simp only [evP, Option.some.injEq] at e
  subst e
  exact q [] RepDs.nil
theorem q_cons {c : SP} {cs : List SP} {Q : List V → Hp → Prop} (h : TQf K ct (c :: cs) σ H Q) : L2.tCons (TPf K ct c) (TQf K ct cs) σ H Q := by
  obtain ⟨B, F, τ, st, xs, e, q⟩ := h
  simp only [evP] at e
  split at e
  · rename_i x hx
    split at e
    · rename_i ys hy
      cases e
      exact p_one st hx fun v rv => ⟨B, F, τ, st, ys, hy, fun vs rs => q _ (rv |>.mono (Same.refl _) |> fun r => RepDs.cons r rs)⟩
    · cases e
  · cases e
theorem e_mK {m : String} {k : SK} {qs : List SP} {Q : VK} (h : TEf K ct (mK m k qs) σ H Q) : tMth K ct m (TKf K ct k) (TQf K ct qs) σ H Q := by
  obtain ⟨B, F, τ, st, m', e', e, q⟩ := h
  unfold mK at e
  split at e
  · rename_i pv hk
    split at e
    · rename_i x hx
      split at e
      · rename_i ys hc
        split at e
        · rename_i z hz
          cases e
          obtain ⟨es, hes⟩ := mth_items hz
          refine k_read st hk hx fun v rv => ?_
          exact ⟨tyT x, tyT_or _, tyW_of rv st.wf.sub hes, B, F, τ, st, ys, hc, fun vs rs => ⟨B, _, _, m', st.wf.sub, tyW_of rv st.wf.sub hes, rv, rs, hz, fun w H' n => fin_new st (Same.refl _) rfl n q⟩⟩
        · cases e
      · cases e
    · cases e
  · cases e

/-! ### isinstance -/
theorem tyx {d : D} {v : V} {t : String} (h : RepD K ct B d v) (sb : Same B H) (e : tyD d = some t) : L2.TyX K H v (.type t) := by
  cases d with
  | non => unfold RepD at h; cases e; subst h; exact .base .non
  | bl b => unfold RepD at h; cases e; subst h; exact .base (.bl b)
  | int b => unfold RepD at h; cases e; subst h; exact .base (.int b)
  | str b => unfold RepD at h; cases e; subst h; exact .base (.str b)
  | tup ds =>
    unfold RepD at h; cases e
    obtain ⟨a, xs, rfl, hp, _⟩ := h
    rcases hp with ⟨its, hp⟩ | ⟨o, its, n, h1, h2, _⟩
    · exact .fTuple (sb _ _ hp)
    · exact .kTuple h1 h2
  | lst ds =>
    unfold RepD at h; cases e
    obtain ⟨a, xs, rfl, hp, _⟩ := h
    exact .base (.lst (sb _ _ hp))
  | frl ds =>
    unfold RepD at h; cases e
    obtain ⟨a, xs, rfl, hp, _⟩ := h
    rcases sb.seq hp with hp | hp
    · rcases hp with hp | ⟨o, hp⟩
      · exact .base (.lst hp)
      · exact .base (.frz hp)
    · obtain ⟨o, its, n, h1, h2, _⟩ := hp
      exact .kList h1 h2
  | obj c ns ds => cases e
theorem kit_known {t T : String} (ht : t = "NoneType" ∨ t = "int" ∨ t = "bool" ∨ t = "str" ∨ t = "tuple" ∨ t = "list") (hT : known T = true) : L2.kitB t T = some (isB t T) := by
  unfold known at hT
  simp only [Bool.or_eq_true, beq_iff_eq] at hT
  rcases ht with rfl | rfl | rfl | rfl | rfl | rfl <;> rcases hT with (((rfl | rfl) | rfl) | rfl) | rfl <;> decide +kernel
theorem tyD_known {d : D} {t : String} (e : tyD d = some t) : t = "NoneType" ∨ t = "int" ∨ t = "bool" ∨ t = "str" ∨ t = "tuple" ∨ t = "list" := by
  cases d <;> simp [tyD] at e <;> simp [← e]
theorem isTs_some {Ts : List String} {x : D} {m : M} (h : isTs Ts x = some m) : ∃ t, tyD x = some t ∧ (∀ T ∈ Ts, known T = true) ∧ m = .d (.bl (Ts.any (isB t))) := by
  unfold isTs at h
  split at h
  · rename_i t ht
    split at h
    · rename_i hk
      exact ⟨t, ht, by simpa using hk, (Option.some.inj h).symm⟩
    · cases h
  · cases h
theorem e_isi {T : String} {c : SE} {Q : VK} (h : TEf K ct (bV (one (isTs [T])) [c]) σ H Q) : L2.tCB (L2.rIsi K) (L2.tCons (TEf K ct c) (L2.tCons (L2.tC (.ty T)) L2.tNil)) σ H Q := by
  obtain ⟨B, F, τ, st, m, e', e, q⟩ := h
  unfold bV at e
  split at e
  · rename_i ms e1 hc
    simp only [evL] at hc
    split at hc
    · rename_i x e2 hx
      cases hc
      split at e
      · rename_i z hz
        cases e
        refine e_one st hx fun v H1 B1 τ1 st1 sb1 ee rv => ?_
        have hz' : isTs [T] x.fz = some m := by simpa [M.fzs, one] using hz
        obtain ⟨t, ht, hk, rfl⟩ := isTs_some hz'
        exact ⟨v, .ty T, .type t, .type T, isB t T, rfl, .ty T, tyx rv st1.wf.sub ht, L2.kit_ty (kit_known (tyD_known ht) (hk T (by simp))), fin_d st1 sb1 ee (by simpa using (rep_bl : RepD K ct B1 (.bl (isB t T)) _)) (by simpa using q)⟩
      · cases e
    · cases hc
  · cases e
theorem e_isiT {T U : String} {c : SE} {Q : VK} (h : TEf K ct (bV (one (isTs [T, U])) [c]) σ H Q) : L2.tCB (L2.rIsiT K) (L2.tCons (TEf K ct c) (L2.tCons (L2.tTup (L2.tCons (L2.tC (.ty T)) (L2.tCons (L2.tC (.ty U)) L2.tNil))) L2.tNil)) σ H Q := by
  obtain ⟨B, F, τ, st, m, e', e, q⟩ := h
  unfold bV at e
  split at e
  · rename_i ms e1 hc
    simp only [evL] at hc
    split at hc
    · rename_i x e2 hx
      cases hc
      split at e
      · rename_i z hz
        cases e
        refine e_one st hx fun v H1 B1 τ1 st1 sb1 ee rv => ?_
        have hz' : isTs [T, U] x.fz = some m := by simpa [M.fzs, one] using hz
        obtain ⟨t, ht, hk, rfl⟩ := isTs_some hz'
        have k1 := kit_known (tyD_known ht) (hk T (by simp))
        have k2 := kit_known (tyD_known ht) (hk U (by simp))
        refine ⟨by show 2 ≤ sizeLine; decide, fun p hp => ?_⟩
        have st2 := st1.junk (o := .tup [.ty T, .ty U]) hp
        refine ⟨v, p, [.ty T, .ty U], .type t, [.type T, .type U], isB t T || isB t U, rfl, upd_same, .cons (.ty T) (.cons (.ty U) .nil), tyx rv st2.wf.sub ht, ?_, fin_d st2 sb1 ee rep_bl (by simpa using q)⟩
        refine L2.kitAny_cons (L2.kit_ty k1) (fun hb => ?_) fun hb => by rw [hb]; rfl
        rw [hb]
        exact L2.kitAny_cons (L2.kit_ty k2) (fun hb => by rw [hb]; rfl) fun hb => by rw [hb]; rfl
      · cases e
    · cases hc
  · cases e

/-! ### list(range(..)) -/
theorem rangeI_rep (a b : Int) : RepDs K ct B ((rangeI a b).map .int) (L2.rgV a b) := by
  have : L2.rgV a b = (rangeI a b).map V.int := by
    unfold L2.rgV rangeI
    rw [List.map_map]; rfl
  rw [this]; exact RepDs.ints
theorem small_of {a b : Int} (h : smallR a b = true) : -(2 ^ 60) ≤ a ∧ a < 2 ^ 60 ∧ -(2 ^ 60) ≤ b ∧ b < 2 ^ 60 := by
  simp only [smallR, Bool.and_eq_true, decide_eq_true_eq] at h
  omega
theorem rangeL_some {bd : Bool} {ds ys : List D} (h : rangeL bd ds = some ys) : ∃ a b, (ds = [.int b] ∧ a = 0 ∨ ds = [.int a, .int b]) ∧ ys = (rangeI a b).map .int ∧ (-(2 ^ 60) ≤ a ∧ a < 2 ^ 60 ∧ -(2 ^ 60) ≤ b ∧ b < 2 ^ 60) ∧ (bd = true → (b - a).toNat ≤ line) := by
  unfold rangeL at h
  split at h
  · rename_i n
    split at h
    · rename_i hc
      simp only [Bool.and_eq_true, Bool.or_eq_true, Bool.not_eq_true', decide_eq_true_eq] at hc
      refine ⟨0, n, .inl ⟨rfl, rfl⟩, (Option.some.inj h).symm, small_of hc.1, fun hb => ?_⟩
      rcases hc.2 with z | z
      · rw [hb] at z; cases z
      · rw [Int.sub_zero]; exact z
    · cases h
  · rename_i a b
    split at h
    · rename_i hc
      simp only [Bool.and_eq_true, Bool.or_eq_true, Bool.not_eq_true', decide_eq_true_eq] at hc
      refine ⟨a, b, .inr rfl, (Option.some.inj h).symm, small_of hc.1, fun hb => ?_⟩
      rcases hc.2 with z | z
      · rw [hb] at z; cases z
      · exact z
    · cases h
  · cases h
def tRgA (ta : L2.TA) : L2.St → Hp → (Int → Int → Hp → Prop) → Prop := fun σ H Q => ta σ H fun vs H1 => ∃ a b, (vs = [.int b] ∧ a = 0 ∨ vs = [.int a, .int b]) ∧ Q a b H1
theorem rg1_of {t : L2.TE} {Q : Int → Int → Hp → Prop} (h : tRgA (L2.tCons t L2.tNil) σ H Q) (mono : ∀ σ H (Q Q' : VK), t σ H Q → (∀ v H, Q v H → Q' v H) → t σ H Q') : L2.tRg1 t σ H Q :=
  mono _ _ _ _ h fun v H' ⟨a, b, z, q⟩ => by
    rcases z with ⟨z, rfl⟩ | z
    · cases z; exact ⟨b, rfl, q⟩
    · cases z
theorem TEf_mono {f : SE} {Q Q' : VK} (h : TEf K ct f σ H Q) (m : ∀ v H, Q v H → Q' v H) : TEf K ct f σ H Q' := by
  obtain ⟨B, F, τ, st, x, e', e, q⟩ := h
  exact ⟨B, F, τ, st, x, e', e, fun v H' B' t τ' af => m _ _ (q v H' B' t τ' af)⟩
theorem e_lrg {cs : List SE} {Q : VK} (h : TEf K ct (bV lstRange cs) σ H Q) : TAf K ct cs σ H fun vs H1 => ∃ a b, (vs = [.int b] ∧ a = 0 ∨ vs = [.int a, .int b]) ∧ L2.RgOk a b ∧ ∀ q, H1 q = none → Q (.ref q) (upd H1 q (.lst (L2.rgV a b))) := by
  obtain ⟨B, F, τ, st, m, e', e, q⟩ := h
  unfold bV at e
  split at e
  · rename_i ms e1 hc
    split at e
    · rename_i z hz
      cases e
      refine ⟨B, F, τ, st, ms, _, hc, fun vs H1 B1 ts τ1 al => ?_⟩
      obtain ⟨B2, st2, sb2, _, ee, r⟩ := al.give
      unfold lstRange at hz
      split at hz
      · rename_i ys hy
        cases hz
        obtain ⟨a, b, hd, rfl, ⟨h1, h2, h3, h4⟩, h5⟩ := rangeL_some hy
        have h5 := h5 rfl
        have hln : line = 16777216 := rfl
        rw [hln] at h5
        have hvs : vs = [.int b] ∧ a = 0 ∨ vs = [.int a, .int b] := by
          rcases hd with ⟨hd, ha⟩ | hd
          · rw [hd] at r
            unfold RepDs at r
            obtain ⟨v, r', rfl, hv, hr⟩ := r
            unfold RepDs at hr; subst hr
            unfold RepD at hv; subst hv
            exact .inl ⟨rfl, ha⟩
          · rw [hd] at r
            unfold RepDs at r
            obtain ⟨v, r', rfl, hv, hr⟩ := r
            unfold RepDs at hr
            obtain ⟨v', r', rfl, hv', hr⟩ := hr
            unfold RepDs at hr; subst hr
            unfold RepD at hv hv'; subst hv hv'
            exact .inr rfl
        refine ⟨a, b, hvs, ⟨by omega, by omega, by omega, by omega, by omega⟩, fun p hp => ?_⟩
        exact fin_new st2 sb2 ee (new_lst (rangeI_rep a b) hp) q
      · cases hz
    · cases e
  · cases e
theorem a_mono {cs : List SE} {Q Q' : List V → Hp → Prop} (h : TAf K ct cs σ H Q) (m : ∀ v H, Q v H → Q' v H) : TAf K ct cs σ H Q' := by
  obtain ⟨B, F, τ, st, x, e', e, q⟩ := h
  exact ⟨B, F, τ, st, x, e', e, fun v H' B' t τ' af => m _ _ (q v H' B' t τ' af)⟩
theorem e_lrg1 {c : SE} {Q : VK} (h : TEf K ct (bV lstRange [c]) σ H Q) : L2.tLstRg (L2.tRg1 (TEf K ct c)) σ H Q := by
  have := a_cons (e_lrg h)
  refine TEf_mono this fun v H' z => ?_
  obtain ⟨a, b, z, q⟩ := a_nil z
  rcases z with ⟨z, rfl⟩ | z
  · cases z; exact ⟨b, rfl, q⟩
  · cases z
theorem e_lrg2 {c d : SE} {Q : VK} (h : TEf K ct (bV lstRange [c, d]) σ H Q) : L2.tLstRg (L2.tRg2 (TEf K ct c) (TEf K ct d)) σ H Q := by
  have := a_cons (e_lrg h)
  refine TEf_mono this fun v H' z => TEf_mono (a_cons z) fun v2 H2 z => ?_
  obtain ⟨a, b, z, q⟩ := a_nil z
  rcases z with ⟨z, rfl⟩ | z
  · cases z
  · cases z; exact ⟨a, b, rfl, rfl, q⟩

/-! ### tests -/
theorem tru {d : D} {v : V} {b : Bool} (h : RdD K ct B H d v) (sb : Same B H) (e : truth d = some b) : L2.TruV K v H b := by
  rcases h with h | ⟨a, vs, ds, rfl, rfl, hc, r⟩
  · cases d with
    | non => unfold RepD at h; cases e; subst h; rfl
    | bl b => unfold RepD at h; cases e; subst h; rfl
    | int b => unfold RepD at h; cases e; subst h; rfl
    | str b => cases e
    | tup ds =>
      unfold RepD at h; cases e
      obtain ⟨a, xs, rfl, hp, r⟩ := h
      refine .inr (.inl ⟨xs, (hp.mono sb).sq, ?_⟩)
      have := r.length
      cases ds <;> cases xs <;> simp_all
    | lst ds =>
      unfold RepD at h; cases e
      obtain ⟨a, xs, rfl, hp, r⟩ := h
      refine .inl ⟨xs, SqL.of (sb _ _ hp), ?_⟩
      have := r.length
      cases ds <;> cases xs <;> simp_all
    | frl ds =>
      unfold RepD at h; cases e
      obtain ⟨a, xs, rfl, hp, r⟩ := h
      refine .inl ⟨xs, sb.seq hp, ?_⟩
      have := r.length
      cases ds <;> cases xs <;> simp_all
    | obj c ns ds => cases e
  · cases e
    refine .inl ⟨vs, SqL.of hc, ?_⟩
    have := r.length
    cases ds <;> cases vs <;> simp_all
theorem t_v {c : SE} {Q : Bool → Hp → Prop} (h : TTf K ct (tV c) σ H Q) : TEf K ct c σ H fun x H' => ∃ k, L2.TruV K x H' k ∧ Q k H' := by
  obtain ⟨B, F, τ, st, b, e', e, q⟩ := h
  unfold tV at e
  split at e
  · rename_i m e1 hc
    split at e
    · rename_i b' hb
      cases e
      exact e_one st hc fun v H1 B1 τ1 st1 sb1 ee rv => ⟨b, tru (.inl rv) st1.wf.sub hb, q H1 B1 τ1 ⟨st1, sb1, ee⟩⟩
    · cases e
  · cases e
theorem t_k {k : SK} {Q : Bool → Hp → Prop} (h : TTf K ct (tK k) σ H Q) : TKf K ct k σ H fun x H' => ∃ k, L2.TruV K x H' k ∧ Q k H' := by
  obtain ⟨B, F, τ, st, b, e', e, q⟩ := h
  unfold tK at e
  split at e
  · rename_i pv hk
    split at e
    · rename_i x hx
      split at e
      · rename_i b' hb
        cases e
        exact k_read st hk hx fun v rv => ⟨b, tru rv st.wf.sub hb, q H B τ ⟨st, Same.refl _, rfl⟩⟩
      · cases e
    · cases e
  · cases e
/-- a comparison: its value is a bool -/
theorem t_b {c : SE} {Q : Bool → Hp → Prop} (h : TTf K ct (tB c) σ H Q) : TEf K ct c σ H fun x H' => ∃ k, x = .bl k ∧ Q k H' := by
  obtain ⟨B, F, τ, st, b, e', e, q⟩ := h
  unfold tB at e
  split at e
  · rename_i b' e1 hc
    cases e
    exact e_one st hc fun v H1 B1 τ1 st1 sb1 ee rv => by
      simp only [M.fz] at rv
      unfold RepD at rv
      exact ⟨b, rv, q H1 B1 τ1 ⟨st1, sb1, ee⟩⟩
  · cases e
theorem t_and {a b : ST} {Q : Bool → Hp → Prop} (h : TTf K ct (tAnd a b) σ H Q) : L2.tAnd (TTf K ct a) (TTf K ct b) σ H Q := by
  obtain ⟨B, F, τ, st, x, e', e, q⟩ := h
  unfold tAnd at e
  split at e
  · rename_i y e1 ha
    refine ⟨B, F, τ, st, y, e1, ha, fun H1 B1 τ1 af => ?_⟩
    cases y with
    | true =>
      simp only [if_true] at e ⊢
      exact ⟨B1, F, τ1, af.st, x, e', by rw [af.ee]; exact e, fun H2 B2 τ2 ag => q H2 B2 τ2 (AftT.of af.sb ag)⟩
    | false =>
      simp only [Bool.false_eq_true, if_false, Option.some.injEq, Prod.mk.injEq] at e ⊢
      obtain ⟨rfl, rfl⟩ := e
      exact q H1 B1 τ1 af
  · cases e
theorem t_or {a b : ST} {Q : Bool → Hp → Prop} (h : TTf K ct (tOr a b) σ H Q) : L2.tOr (TTf K ct a) (TTf K ct b) σ H Q := by
  obtain ⟨B, F, τ, st, x, e', e, q⟩ := h
  unfold tOr at e
  split at e
  · rename_i y e1 ha
    refine ⟨B, F, τ, st, y, e1, ha, fun H1 B1 τ1 af => ?_⟩
    cases y with
    | false =>
      simp only [Bool.false_eq_true, if_false] at e ⊢
      exact ⟨B1, F, τ1, af.st, x, e', by rw [af.ee]; exact e, fun H2 B2 τ2 ag => q H2 B2 τ2 (AftT.of af.sb ag)⟩
    | true =>
      simp only [if_true, Option.some.injEq, Prod.mk.injEq] at e ⊢
      obtain ⟨rfl, rfl⟩ := e
      exact q H1 B1 τ1 af
  · cases e
theorem t_not {a : ST} {Q : Bool → Hp → Prop} (h : TTf K ct (tNot a) σ H Q) : L2.tNot (TTf K ct a) σ H Q := by
  obtain ⟨B, F, τ, st, x, e', e, q⟩ := h
  unfold tNot at e
  split at e
  · rename_i y e1 ha
    cases e
    exact ⟨B, F, τ, st, y, _, ha, fun H1 B1 τ1 af => q H1 B1 τ1 af⟩
  · cases e
theorem t_yes {Q : Bool → Hp → Prop} (h : TTf K ct tYes σ H Q) : L2.tYes σ H Q := by
  obtain ⟨B, F, τ, st, x, e', e, q⟩ := h
  simp only [tYes, Option.some.injEq, Prod.mk.injEq] at e
  obtain ⟨rfl, rfl⟩ := e
  exact q H B τ ⟨st, Same.refl _, rfl⟩
end
end Ev
set_option Elab.async false
set_option linter.all false
set_option maxRecDepth 100000
set_option maxHeartbeats 2000000
/-! enumerate over a tuple. -/
namespace Ev
open PySem PySem.Spec PyProof.Rows PySem.Calls
open Sem (wp)
open L2 (V HO Hp SqL SqT Same upd upd_same upd_ne Cx PE PT PA PI It Turn FpOk ObjOk Inv RelV Vals VK Gl TI)

theorem meets_en {v : Value} {o : Obj} {Z : Heap → Prop} (Bg : Begins v o Z) :
    Meets (Builtin.«enumerate.__new__» ⟨[.type "enumerate", v], []⟩) (fun _ R s => Z s.heap ∧
      R (.ok (.ret (.ref (s.heap.push o).objs.size))) { s with heap := (s.heap.push o).push { cls := .type "enumerate", data := .fields #[.none, .bool false, .ref s.heap.objs.size, rawInt 0, .none, .none] } }) :=
  .of_wp fun prog w A R s h => by
    obtain ⟨hp, g, d, tk, os⟩ := s
    obtain ⟨z1, z2⟩ := h
    have hsub := sub_enumerate
    have go : ∀ {A2 : Around} {E : Value → Shared → Prop} {Q : Value → Shared → Prop}, Q (.ref hp.objs.size) ⟨hp.push o, g, d, tk, os⟩ → wpAny (model prog w) A2 (pyIter v) Q E ⟨hp, g, d, tk, os⟩ :=
      fun q => Bg.iter prog w _ _ ⟨hp, g, d, tk, os⟩ _ z1 q
    wp_walk using go
    refine wpAny_stack_any fun st => wpAny_pure ?_
    split
    · rename_i c _ _ _ _ _
      cases (c == Value.type "enumerate")
      · wp_walk using go
        exact ⟨_, rfl, z2⟩
      · wp_walk using go
        exact ⟨_, rfl, z2⟩
    · wp_walk using go
      exact ⟨_, rfl, z2⟩

theorem call_en {prog : Program} {w : World} {A : Around} {E : Value → Shared → Prop} {s : Shared} {v : Value} {o : Obj} {Z : Heap → Prop} {Q : Value → Shared → Prop} (Bg : Begins v o Z) (z1 : Z s.heap)
    (k : ∀ h2, IsEnum h2 (s.heap.objs.size + 1) s.heap.objs.size 0 .none → h2.get? s.heap.objs.size = some o → (∀ b u, s.heap.get? b = some u → h2.get? b = some u) → Q (.ref (s.heap.objs.size + 1)) { s with heap := h2 }) :
    wpAny (model prog w) A (call (.type "enumerate") [v]) Q E s := by
  refine callType_new F.called_enumerate (by decide) (F.typeCall_enumerate_1 _) (F.newCall_enumerate_1 _) (fun ob => F.args_object_init_2 ob _) F.entry_enumerate_new (meets_en Bg) ⟨z1, ?_⟩
  have sz : (s.heap.push o).objs.size = s.heap.objs.size + 1 := Heap.size_push ..
  show _ ∧ _
  rw [sz]
  have en : IsEnum ((s.heap.push o).push { cls := .type "enumerate", data := .fields #[.none, .bool false, .ref s.heap.objs.size, rawInt 0, .none, .none] }) (s.heap.objs.size + 1) s.heap.objs.size 0 .none := by
    have z := Heap.get?_push_size (s.heap.push o) (o := { cls := .type "enumerate", data := .fields #[.none, .bool false, .ref s.heap.objs.size, rawInt 0, .none, .none] }) rfl
    rw [sz] at z; exact z
  exact ⟨⟨_, en, rfl⟩, k _ en (Heap.get?_push_of_some _ (Heap.get?_push_size _ Bg.free)) fun b u x => Heap.get?_push_of_some _ (Heap.get?_push_of_some _ x)⟩

/-- what enumerate gives of the tuple at a -/
def ItT (K : PySem.W.Frag) (a : Addr) : It where
  go := fun i H => ∃ xs x, SqT K H a xs ∧ xs[i]? = some x
  yld := fun i H v H' => ∃ T x, v = .ref T ∧ H T = none ∧ H' = upd H T (.tup [.int (i : Nat), x]) ∧ ∀ xs, SqT K H a xs → xs[i]? = some x
  stop := fun i H => ∃ xs, SqT K H a xs ∧ xs.length = i
theorem turn_en {P : Program} {w : World} {K : PySem.W.Frag} {es : List Expr} {kk : Nat} {tp : Pos} (a e it : Addr) :
    Turn P w K (.Tuple es kk tp) (ItT K a) [e, it] e (fun i h => (∃ old, IsEnum h e it ((i : Nat) : Int) old) ∧ h.IsTupleIter it a i ∧ e ≠ it ∧ a ≠ it ∧ e ≠ a) where
  mem := List.mem_cons_self
  obj := fun i h st b hb => by
    obtain ⟨⟨old, en⟩, ⟨o, ho, hcl, hdt⟩, _⟩ := st
    rcases List.mem_cons.mp hb with rfl | hb
    · exact ⟨_, en, fun v q => nomatch q⟩
    · cases List.mem_singleton.mp hb
      exact ⟨o, ho, fun v q => by rw [hdt] at q; cases q⟩
  keep := fun i h h' st k => by
    obtain ⟨⟨old, en⟩, ti, ne⟩ := st
    exact ⟨⟨old, k e List.mem_cons_self _ en⟩, ti.at fun o q => k it (List.mem_cons_of_mem _ List.mem_cons_self) o q, ne⟩
  item := by
    rintro X rfl rfl rfl hc i pins s σ H E I hf ⟨⟨old, en⟩, ti, ne1, ne2, ne3⟩ ⟨xs, x, hq, hx⟩
    obtain ⟨its, rv, pt, _⟩ := I.tuple hq
    obtain ⟨u, hu, ru⟩ := rv.get hx
    have el : e < s.heap.objs.size := Heap.lt_size en
    have il : it < s.heap.objs.size := by obtain ⟨_, q, _⟩ := ti; exact Heap.lt_size q
    have hi : i < its.toArray.size := by
      rw [List.size_toArray]
      by_cases z : i < its.length
      · exact z
      · rw [List.getElem?_eq_none (Nat.le_of_not_lt z)] at hu; cases hu
    have D := Draws.tuple (prog := X.prog) (w := X.w) (A := X.A.in1) (by rw [show X.A.in1.handled = X.A.handled from rfl]; exact I.ok.hd hc) it a ne2 its.toArray
    refine wpAny_pyNext_enum_itemD D en ⟨ti, pt⟩ hi ne1 (by simp [ne1, ne3]) fun y h2 tk hy out st2 hT _ hk => ?_
    have ey : y = u := by
      have hu' : its.toArray[i]? = some u := by simpa using hu
      rw [hu'] at hy; exact (Option.some.inj hy).symm
    subst ey
    refine ⟨_, rfl, wpAny_letOwnedTupleGo_enum (s := { s with heap := h2, toks := tk + 1 }) out fun h3 en3 sb => ?_⟩
    have hT3 : h3.get? s.heap.objs.size = some { cls := .type "tuple", data := .seq #[.int i tk, y] } := (sb.2 _ (Nat.ne_of_gt el)).trans hT
    have fresh : ObjOk X.prog X.w (upd H s.heap.objs.size (.tup [.int (i : Nat), x])) h3 s.heap.objs.size (.tup [.int (i : Nat), x]) :=
      ⟨by show 2 ≤ sizeLine; decide, [.int i tk, y], .cons ⟨_, rfl⟩ (.cons ru .nil), ⟨_, hT3, rfl, _, rfl⟩⟩
    have I3 : Inv X pins σ (upd H s.heap.objs.size (.tup [.int (i : Nat), x])) { s with heap := h3, toks := tk + 1 } :=
      I.turnedNew (ch := [e, it]) (fun b ob hb q => by
        simp only [List.mem_cons, List.not_mem_nil, or_false, not_or] at hb
        exact (sb.2 b hb.1).trans (hk b ob hb.1 hb.2 q)) hf (Nat.le_refl _) fresh
    refine ⟨.ref s.heap.objs.size, _, I3, rfl, ⟨_, x, rfl, I.hok.fresh (Nat.le_refl _), rfl, fun ys hys => by rw [I.tuple_inj hys hq]; exact hx⟩, ⟨⟨y, ?_⟩, st2.1.at fun o q => (sb.2 it (Ne.symm ne1)).trans q, ne1, ne2, ne3⟩, fun b hb => ?_⟩
    · have z : ((i + 1 : Nat) : Int) = (i : Int) + 1 := by omega
      rw [z]; exact en3
    · have hb2 : b < s.heap.objs.size := by
        simp only [List.mem_cons, List.not_mem_nil, or_false] at hb
        rcases hb with rfl | rfl
        · exact el
        · exact il
      rw [upd_ne (Nat.ne_of_lt hb2)]
      exact (hf b hb).1
  done := by
    rintro X rfl rfl rfl hc i pins s σ H E I hf ⟨⟨old, en⟩, ti, ne1, ne2, ne3⟩ ⟨xs, hq, hx⟩
    obtain ⟨its, rv, pt, _⟩ := I.tuple hq
    obtain ⟨f0, f1, f2, f3, f4, f5⟩ := hf it (by simp)
    have hl := rv.length
    have hi : i = its.toArray.size := by rw [List.size_toArray]; omega
    subst hi
    have D := Draws.tuple (prog := X.prog) (w := X.w) (A := X.A.in1) (by rw [show X.A.in1.handled = X.A.handled from rfl]; exact I.ok.hd hc) it a ne2 its.toArray
    exact wpAny_pyNext_enum_endD D en ⟨ti, pt⟩ fun h2 eb => ⟨rfl, I.turned (t' := s.toks) (fun b o hb q => eb b o hb q) f0 f1 f3 f4 f5⟩
  self := fun A i s Q E st h => by obtain ⟨⟨old, en⟩, _⟩ := st; exact wpAny_pyIter_enum en h
/-- enumerate of a list or a tuple -/
def iEnA (K : PySem.W.Frag) (te : L2.TE) : TI := fun σ H R => te σ H fun v H1 => ∃ a xs, v = .ref a ∧ ((SqL K H1 a xs ∧ R (L2.Ite K a) H1) ∨ (SqT K H1 a xs ∧ R (ItT K a) H1))
theorem pi_en {X : Cx} {e : Expr} {te : L2.TE} {p pos tp : Pos} {es : List Expr} {kk : Nat} (hg : Gl X "enumerate") (hm : X.mg "enumerate" = none) (he : PE X e te) (hs : starEach [e] X.env = (false, eval e X.env) :: starEach [] X.env) :
    PI X (.Tuple es kk tp) (.Call (.Name "enumerate" p) [e] [] pos) (iEnA X.K te) := by
  refine ⟨fun pins s σ H R I h => ?_⟩
  refine Call_ (L2.ld_blt I hg hm boot_enumerate (PyProof.Rows.callWith_type1 (args_cons (L2.thn (he.run pins s σ H _ I h) fun u s1 ⟨v, H1, I1, r1, a, xs, ev, q⟩ => args_nil ?_) hs) hs rfl))
  subst ev
  obtain rfl : u = Value.ref a := r1
  have fp2 : ∀ b ∈ [s1.heap.objs.size + 1, s1.heap.objs.size], FpOk X pins H1 b := fun b hb => by
    have z : s1.heap.objs.size ≤ b := by
      simp only [List.mem_cons, List.not_mem_nil, or_false] at hb
      omega
    exact I1.fpOk z (I1.hok.fresh z)
  rcases q with ⟨hq, q⟩ | ⟨hq, q⟩
  · obtain ⟨its, rv, pl, hz⟩ := I1.list hq
    refine call_en (begins_list a its.toArray) pl.isList fun h2 en z k => wpAny_pyIter_enum en ?_
    exact ⟨_, _, _, _, H1, rfl, I1.kept (t' := s1.toks) k, L2.turn_enum a (s1.heap.objs.size + 1) s1.heap.objs.size, ⟨⟨.none, en⟩, ⟨_, z, rfl, rfl⟩, Nat.succ_ne_self _⟩, fp2, q⟩
  · obtain ⟨its, rv, pt, hz⟩ := I1.tuple hq
    have la : a < s1.heap.objs.size := by obtain ⟨_, z, _⟩ := pt; exact Heap.lt_size z
    refine call_en (begins_tuple a its.toArray) pt fun h2 en z k => wpAny_pyIter_enum en ?_
    exact ⟨_, _, _, _, H1, rfl, I1.kept (t' := s1.toks) k, turn_en a (s1.heap.objs.size + 1) s1.heap.objs.size, ⟨⟨.none, en⟩, ⟨_, z, rfl, rfl⟩, Nat.succ_ne_self _, Nat.ne_of_lt la, Nat.ne_of_gt (Nat.lt_succ_of_lt la)⟩, fp2, q⟩
/-- a list or a tuple as it stands -/
def iSeq (K : PySem.W.Frag) (te : L2.TE) : TI := fun σ H R => te σ H fun v H1 => ∃ a xs, v = .ref a ∧ ((SqL K H1 a xs ∧ R (L2.Itl K a) H1) ∨ (SqT K H1 a xs ∧ R (L2.Itt K a) H1))
theorem pi_seq {X : Cx} {tg e : Expr} {te : L2.TE} (he : PE X e te) : PI X tg e (iSeq X.K te) := by
  refine ⟨fun pins s σ H R I h => ?_⟩
  refine L2.thn (he.run pins s σ H _ I h) fun u s1 ⟨v, H1, I1, r1, a, xs, ev, q⟩ => ?_
  subst ev
  obtain rfl : u = Value.ref a := r1
  have fp1 : ∀ b ∈ [s1.heap.objs.size], FpOk X pins H1 b := fun b hb => by
    cases List.mem_singleton.mp hb
    exact I1.fpOk (Nat.le_refl _) (I1.hok.fresh (Nat.le_refl _))
  rcases q with ⟨hq, q⟩ | ⟨hq, q⟩
  · obtain ⟨its, rv, pl, hz⟩ := I1.list hq
    refine wpAny_pyIter_list pl.isList ?_
    exact ⟨_, _, _, _, H1, rfl, I1.kept (t' := s1.toks) fun b o z => Heap.get?_push_of_some _ z, L2.turn_list a _, ⟨_, Heap.get?_push_size _ rfl, rfl, rfl⟩, fp1, q⟩
  · obtain ⟨its, rv, pt, hz⟩ := I1.tuple hq
    refine wpAny_pyIter_tuple (show s1.heap.IsTuple a its.toArray from pt) ?_
    exact ⟨_, _, _, _, H1, rfl, I1.kept (t' := s1.toks) fun b o z => Heap.get?_push_of_some _ z, L2.turn_tuple a _, ⟨_, Heap.get?_push_size _ rfl, rfl, rfl⟩, fp1, q⟩
end Ev
set_option Elab.async false
set_option linter.all false
set_option maxRecDepth 100000
set_option maxHeartbeats 1000000
/-! What is walked; targets; comprehensions. -/
namespace Ev
open PySem PySem.Spec PyProof.Rows PySem.Calls
open L2 (V HO Hp SqL SqT Same upd upd_same upd_ne Cx PE PT PA PI PG It Inv RelV Vals VK Gl TI)

section
variable (K : PySem.W.Frag) (ct : Str → Option Addr)
/-- what is yielded: data, or (where a tuple's items are all that is taken) a new pair -/
def RepY (pl : Bool) (B : Hp) (x : D) (v : V) : Prop := RepD K ct B x v ∨ (pl = true ∧ ∃ ds a vs, x = .tup ds ∧ v = .ref a ∧ SqT K B a vs ∧ RepDs K ct B ds vs)
/-- J gives xs, one after the other, while what B says stands -/
structure WalkD (pl : Bool) (B : Hp) (xs : List D) (J : It) : Prop where
  goes : ∀ i H, i < xs.length → Same B H → J.go i H
  stops : ∀ H, Same B H → J.stop xs.length H
  yields : ∀ i H v H' cs B1, i < xs.length → Same B B1 → Wf B1 cs H → J.yld i H v H' → ∃ B2, Wf B2 cs H' ∧ Same B1 B2 ∧ ∃ x, xs[i]? = some x ∧ RepY K ct pl B2 x v
def TIf (pl : Bool) (f : SI) : TI := fun σ H R => ∃ B F τ, St K ct B F σ τ H ∧ ∃ xs e', f (erE τ) = some (xs, e') ∧ ∀ J H' B' τ', AftT K ct B F σ e' H' B' τ' → WalkD K ct pl B' xs J → R J H'
def TGf (pl : Bool) (g : Tg) : L2.TG := fun v σ H Q => ∃ B F τ, St K ct B F σ τ H ∧ ∃ x e', RepY K ct pl B x v ∧ g.set x (erE τ) = some e' ∧ ∀ σ' τ', St K ct B F σ' τ' H → erE τ' = e' → σ'.length = σ.length → (∀ j, j ∉ g.ns → σ'[j]? = σ[j]?) → Q σ' H
def TGsf (gs : List Tg) : L2.TGs := fun vs σ H Q => ∃ B F τ, St K ct B F σ τ H ∧ ∃ xs e', RepDs K ct B xs vs ∧ Tg.sets gs xs (erE τ) = some e' ∧ ∀ σ' τ', St K ct B F σ' τ' H → erE τ' = e' → σ'.length = σ.length → (∀ j, j ∉ Tg.nss gs → σ'[j]? = σ[j]?) → Q σ' H
end

section
variable {K : PySem.W.Frag} {ct : Str → Option Addr} {B B' H H' : Hp} {F : List Cell} {σ : L2.St} {τ : TE0} {pl : Bool}

/-! ### what is walked -/
theorem sq_tup {B H : Hp} (e : Same B H) {a : Addr} {vs : List V} (h : SqT K B a vs) : SqT K H a vs := by
  rcases h with h | h
  · rcases h with h | ⟨o, h⟩
    · exact .inl (.inl (e _ _ h))
    · exact .inl (.inr ⟨o, e _ _ h⟩)
  · exact .inr h
/-- sequences by what B says -/
theorem rd_seq {d : D} {xs : List D} {v : V} (h : RepD K ct B d v) (e : d.items = some xs) : ∃ a vs, v = .ref a ∧ RepDs K ct B xs vs ∧ (SqL K B a vs ∨ SqT K B a vs) := by
  cases d with
  | tup ds =>
    unfold RepD at h
    obtain ⟨a, vs, rfl, hp, r⟩ := h
    cases e
    exact ⟨a, vs, rfl, r, .inr hp.sq⟩
  | lst ds =>
    unfold RepD at h
    obtain ⟨a, vs, rfl, hp, r⟩ := h
    cases e
    exact ⟨a, vs, rfl, r, .inl (SqL.of hp)⟩
  | frl ds =>
    unfold RepD at h
    obtain ⟨a, vs, rfl, hp, r⟩ := h
    cases e
    exact ⟨a, vs, rfl, r, .inl hp⟩
  | _ => simp [D.items] at e
theorem get_of {xs : List D} {vs : List V} {i : Nat} (r : RepDs K ct B xs vs) (hi : i < xs.length) : ∃ v, vs[i]? = some v ∧ xs[i]? = some xs[i] ∧ RepD K ct B xs[i] v := by
  obtain ⟨v, h1, h2⟩ := r.get (List.getElem?_eq_getElem hi)
  exact ⟨v, h1, List.getElem?_eq_getElem hi, h2⟩
theorem w_list {xs : List D} {vs : List V} {a : Addr} (r : RepDs K ct B xs vs) (h : SqL K B a vs) : WalkD K ct pl B xs (L2.Itl K a) where
  goes := fun i H hi sb => by
    obtain ⟨v, h1, _⟩ := get_of r hi
    exact ⟨vs, v, sb.seq h, h1⟩
  stops := fun H sb => ⟨vs, sb.seq h, Nat.le_of_eq r.length.symm⟩
  yields := fun i H v H' cs B1 hi sb w y => by
    obtain ⟨rfl, y⟩ := y
    obtain ⟨u, h1, h2, h3⟩ := get_of r hi
    have := y vs ((sb.trans w.sub).seq h)
    rw [h1] at this; cases this
    exact ⟨B1, w, Same.refl _, _, h2, .inl (h3.mono sb)⟩
theorem w_tup {xs : List D} {vs : List V} {a : Addr} (r : RepDs K ct B xs vs) (h : SqT K B a vs) : WalkD K ct pl B xs (L2.Itt K a) where
  goes := fun i H hi sb => by
    obtain ⟨v, h1, _⟩ := get_of r hi
    exact ⟨vs, v, sq_tup sb h, h1⟩
  stops := fun H sb => ⟨vs, sq_tup sb h, Nat.le_of_eq r.length.symm⟩
  yields := fun i H v H' cs B1 hi sb w y => by
    obtain ⟨rfl, y⟩ := y
    obtain ⟨u, h1, h2, h3⟩ := get_of r hi
    have := y vs (sq_tup (sb.trans w.sub) h)
    rw [h1] at this; cases this
    exact ⟨B1, w, Same.refl _, _, h2, .inl (h3.mono sb)⟩
theorem w_rng {a b : Int} : WalkD K ct pl B ((rangeI a b).map .int) (L2.Itr a (b - a).toNat) where
  goes := fun i H hi sb => by
    simp only [List.length_map, rangeI, List.length_range] at hi
    exact hi
  stops := fun H sb => by
    show _ ≤ _
    simp only [List.length_map, rangeI, List.length_range]
    exact Nat.le_refl _
  yields := fun i H v H' cs B1 hi sb w y => by
    obtain ⟨rfl, rfl⟩ := y
    simp only [List.length_map, rangeI, List.length_range] at hi
    refine ⟨B1, w, Same.refl _, .int (a + (i : Nat)), ?_, .inl rep_int⟩
    rw [List.getElem?_map, rangeI, List.getElem?_map, List.getElem?_range hi]; rfl
theorem pair_new {x y : D} {v u : V} {T : Addr} {cs : List Cell} (w : Wf B cs H) (hT : H T = none) (rx : RepD K ct B x v) (ry : RepD K ct B y u) :
    ∃ B2, Wf B2 cs (upd H T (.tup [v, u])) ∧ Same B B2 ∧ RepY K ct true B2 (.tup [x, y]) (.ref T) := by
  have sb : Same B (upd B T (.tup [v, u])) := same_upd (w.free hT)
  exact ⟨_, w.shared hT, sb, .inr ⟨rfl, _, T, _, rfl, rfl, SqT.of upd_same, RepDs.cons (rx.mono sb) (RepDs.cons (ry.mono sb) RepDs.nil)⟩⟩
theorem enum_len (xs : List D) : (enumD xs).length = xs.length := by simp [enumD]
theorem enum_get {xs : List D} {i : Nat} (hi : i < xs.length) : (enumD xs)[i]? = some (.tup [.int (i : Nat), xs[i]]) := by
  simp [enumD, List.getElem?_map, List.zip, List.getElem?_zipWith, List.getElem?_range hi, List.getElem?_eq_getElem hi]
theorem w_enumL {xs : List D} {vs : List V} {a : Addr} (r : RepDs K ct B xs vs) (h : SqL K B a vs) : WalkD K ct true B (enumD xs) (L2.Ite K a) where
  goes := fun i H hi sb => by
    rw [enum_len] at hi
    obtain ⟨v, h1, _⟩ := get_of r hi
    exact ⟨vs, v, sb.seq h, h1⟩
  stops := fun H sb => ⟨vs, sb.seq h, by rw [enum_len]; exact Nat.le_of_eq r.length.symm⟩
  yields := fun i H v H' cs B1 hi sb w y => by
    rw [enum_len] at hi
    obtain ⟨T, x, rfl, hT, rfl, y⟩ := y
    obtain ⟨u, h1, h2, h3⟩ := get_of r hi
    have := y vs ((sb.trans w.sub).seq h)
    rw [h1] at this; cases this
    obtain ⟨B2, w2, sb2, ry⟩ := pair_new (x := .int (i : Nat)) (v := .int (i : Nat)) w hT rep_int (h3.mono sb)
    exact ⟨B2, w2, sb2, _, enum_get hi, ry⟩
theorem w_enumT {xs : List D} {vs : List V} {a : Addr} (r : RepDs K ct B xs vs) (h : SqT K B a vs) : WalkD K ct true B (enumD xs) (ItT K a) where
  goes := fun i H hi sb => by
    rw [enum_len] at hi
    obtain ⟨v, h1, _⟩ := get_of r hi
    exact ⟨vs, v, sq_tup sb h, h1⟩
  stops := fun H sb => ⟨vs, sq_tup sb h, by rw [enum_len]; exact r.length.symm⟩
  yields := fun i H v H' cs B1 hi sb w y => by
    rw [enum_len] at hi
    obtain ⟨T, x, rfl, hT, rfl, y⟩ := y
    obtain ⟨u, h1, h2, h3⟩ := get_of r hi
    have := y vs (sq_tup (sb.trans w.sub) h)
    rw [h1] at this; cases this
    obtain ⟨B2, w2, sb2, ry⟩ := pair_new (x := .int (i : Nat)) (v := .int (i : Nat)) w hT rep_int (h3.mono sb)
    exact ⟨B2, w2, sb2, _, enum_get hi, ry⟩
theorem i_v {c : SE} {R : It → Hp → Prop} (h : TIf K ct pl (iV c) σ H R) : iSeq K (TEf K ct c) σ H R := by
  obtain ⟨B, F, τ, st, xs, e', e, q⟩ := h
  unfold iV at e
  split at e
  · rename_i m e1 hf
    split at e
    · rename_i ys hd
      cases e
      refine e_one st hf fun v H1 B1 τ1 st1 sb1 ee rv => ?_
      obtain ⟨a, vs, rfl, r, hs⟩ := rd_seq rv hd
      refine ⟨a, vs, rfl, ?_⟩
      rcases hs with hs | hs
      · exact .inl ⟨st1.wf.sub.seq hs, q _ H1 B1 τ1 ⟨st1, sb1, ee⟩ (w_list r hs)⟩
      · exact .inr ⟨sq_tup st1.wf.sub hs, q _ H1 B1 τ1 ⟨st1, sb1, ee⟩ (w_tup r hs)⟩
    · cases e
  · cases e
theorem i_enum {c : SE} {R : It → Hp → Prop} (h : TIf K ct true (iEnum c) σ H R) : iEnA K (TEf K ct c) σ H R := by
  obtain ⟨B, F, τ, st, xs, e', e, q⟩ := h
  unfold iEnum at e
  split at e
  · rename_i m e1 hf
    split at e
    · rename_i ys hd
      cases e
      refine e_one st hf fun v H1 B1 τ1 st1 sb1 ee rv => ?_
      obtain ⟨a, vs, rfl, r, hs⟩ := rd_seq rv hd
      refine ⟨a, vs, rfl, ?_⟩
      rcases hs with hs | hs
      · exact .inl ⟨st1.wf.sub.seq hs, q _ H1 B1 τ1 ⟨st1, sb1, ee⟩ (w_enumL r hs)⟩
      · exact .inr ⟨sq_tup st1.wf.sub hs, q _ H1 B1 τ1 ⟨st1, sb1, ee⟩ (w_enumT r hs)⟩
    · cases e
  · cases e
theorem i_rng {cs : List SE} {R : It → Hp → Prop} (h : TIf K ct pl (iRng cs) σ H R) : TAf K ct cs σ H fun vs H1 => ∃ a b, (vs = [.int b] ∧ a = 0 ∨ vs = [.int a, .int b]) ∧ (-(2 ^ 62) ≤ a ∧ a < 2 ^ 62 ∧ -(2 ^ 62) ≤ b ∧ b < 2 ^ 62) ∧ R (L2.Itr a (b - a).toNat) H1 := by
  obtain ⟨B, F, τ, st, xs, e', e, q⟩ := h
  unfold iRng at e
  split at e
  · rename_i ms e1 hc
    split at e
    · rename_i ys hy
      cases e
      refine ⟨B, F, τ, st, ms, _, hc, fun vs H1 B1 ts τ1 al => ?_⟩
      obtain ⟨B2, st2, sb2, _, ee, r⟩ := al.give
      obtain ⟨a, b, hd, rfl, ⟨h1, h2, h3, h4⟩, h5⟩ := rangeL_some hy
      have hvs : vs = [.int b] ∧ a = 0 ∨ vs = [.int a, .int b] := by
        rcases hd with ⟨hd, ha⟩ | hd
        · rw [hd] at r
          unfold RepDs at r
          obtain ⟨v, r', rfl, hv, hr⟩ := r
          unfold RepDs at hr; subst hr
          unfold RepD at hv; subst hv
          exact .inl ⟨rfl, ha⟩
        · rw [hd] at r
          unfold RepDs at r
          obtain ⟨v, r', rfl, hv, hr⟩ := r
          unfold RepDs at hr
          obtain ⟨v', r', rfl, hv', hr⟩ := hr
          unfold RepDs at hr; subst hr
          unfold RepD at hv hv'; subst hv hv'
          exact .inr rfl
      exact ⟨a, b, hvs, ⟨by omega, by omega, by omega, by omega⟩, q _ H1 B2 τ1 ⟨st2, sb2, ee⟩ w_rng⟩
    · cases e
  · cases e
theorem i_rng1 {c : SE} {R : It → Hp → Prop} (h : TIf K ct pl (iRng [c]) σ H R) : L2.iRng1 (L2.tCons (TEf K ct c) L2.tNil) σ H R := by
  refine TEf_mono (a_cons (i_rng h)) fun v H' z => ?_
  obtain ⟨a, b, z, h, q⟩ := a_nil z
  rcases z with ⟨z, rfl⟩ | z
  · cases z; exact ⟨b, rfl, h.2.2.1, h.2.2.2, by simpa using q⟩
  · cases z
theorem i_rng2 {c d : SE} {R : It → Hp → Prop} (h : TIf K ct pl (iRng [c, d]) σ H R) : L2.iRng2 (L2.tCons (TEf K ct c) (L2.tCons (TEf K ct d) L2.tNil)) σ H R := by
  refine TEf_mono (a_cons (i_rng h)) fun v H' z => TEf_mono (a_cons z) fun v2 H2 z => ?_
  obtain ⟨a, b, z, h, q⟩ := a_nil z
  rcases z with ⟨z, rfl⟩ | z
  · cases z
  · cases z; exact ⟨a, b, rfl, h, q⟩

/-! ### targets -/
theorem cells_drop {cs : List Cell} {i : Nat} {o : Option MA} (w : Wf B (cellsE τ ++ cs) H) (ho : cellsO o = []) : Wf B (cellsE (τ.set i o) ++ cs) H := by
  cases ht : τ[i]? with
  | none => rw [List.set_eq_of_length_le (by simpa using ht)]; exact w
  | some u =>
    obtain ⟨R, h1, h2⟩ := cellsE_set ht
    have w1 : Wf B (cellsO u ++ (R ++ cs)) H := w.perm (by rw [← List.append_assoc]; exact List.Perm.append_right _ h1)
    refine w1.drop.perm (List.Perm.append_right _ ?_)
    have := h2 o
    rw [ho] at this
    exact this.symm
theorem St.setd (st : St K ct B F σ τ H) {i : Nat} {x : D} {v : V} (r : RepD K ct B x v) : St K ct B F (σ.set i (some v)) (τ.set i (some (.d x v))) H :=
  ⟨cells_drop st.wf (by simp [cellsO, MA.cells]), st.ok.set fun t e => by cases e; unfold MA.ok; exact r, st.rel.set (t := .d x v)⟩
theorem g_name {i : Nat} {v : V} {Q : L2.St → Hp → Prop} (h : TGf K ct false (.n i) v σ H Q) : L2.gName i v σ H Q := by
  obtain ⟨B, F, τ, st, x, e', r, e, q⟩ := h
  simp only [Tg.set, Option.some.injEq] at e
  subst e
  rcases r with r | ⟨z, _⟩
  · refine q _ _ (st.setd r) (by rw [erE_set]; rfl) (by rw [List.length_set]) fun j hj => ?_
    simp only [Tg.ns, List.mem_singleton] at hj
    rw [List.getElem?_set_ne (fun z => hj z.symm)]
  · cases z
theorem sets_len : ∀ {gs : List Tg} {xs : List D} {e e' : Env}, Tg.sets gs xs e = some e' → xs.length = gs.length
  | [], [], _, _, _ => rfl
  | [], _ :: _, _, _, h => by simp [Tg.sets] at h
  | _ :: _, [], _, _, h => by simp [Tg.sets] at h
  | g :: gs, x :: xs, e, e', h => by
    simp only [Tg.sets] at h
    split at h
    · simp [sets_len h]
    · cases h
theorem g_tup {gs : List Tg} {v : V} {Q : L2.St → Hp → Prop} (h : TGf K ct pl (.t gs) v σ H Q) : L2.gTup K gs.length (TGsf K ct gs) v σ H Q := by
  obtain ⟨B, F, τ, st, x, e', r, e, q⟩ := h
  simp only [Tg.set] at e
  split at e
  · rename_i xs
    have seq : ∃ a vs, v = .ref a ∧ SqT K H a vs ∧ RepDs K ct B xs vs := by
      rcases r with r | ⟨_, ds, a, vs, z, rfl, hs, r⟩
      · unfold RepD at r
        obtain ⟨a, vs, rfl, hp, r⟩ := r
        exact ⟨a, vs, rfl, sq_tup st.wf.sub hp.sq, r⟩
      · cases z
        exact ⟨a, vs, rfl, sq_tup st.wf.sub hs, r⟩
    obtain ⟨a, vs, rfl, hs, r⟩ := seq
    refine ⟨a, vs, rfl, hs, by rw [← r.length]; exact sets_len e, B, F, τ, st, xs, e', r, e, fun σ' τ' s1 s2 s3 s4 => q σ' τ' s1 s2 s3 fun j hj => s4 j (by simpa only [Tg.ns] using hj)⟩
  · cases e
theorem gs_nil {vs : List V} {Q : L2.St → Hp → Prop} (h : TGsf K ct [] vs σ H Q) : L2.gNil vs σ H Q := by
  obtain ⟨B, F, τ, st, xs, e', r, e, q⟩ := h
  cases xs with
  | nil =>
    simp only [Tg.sets, Option.some.injEq] at e
    unfold RepDs at r
    exact ⟨r, q σ τ st e rfl fun _ _ => rfl⟩
  | cons x xs => simp [Tg.sets] at e
theorem gs_cons {g : Tg} {gs : List Tg} {vs : List V} {Q : L2.St → Hp → Prop} (h : TGsf K ct (g :: gs) vs σ H Q) : L2.gCons (TGf K ct false g) (TGsf K ct gs) vs σ H Q := by
  obtain ⟨B, F, τ, st, xs, e', r, e, q⟩ := h
  cases xs with
  | nil => simp [Tg.sets] at e
  | cons x xs =>
    unfold RepDs at r
    obtain ⟨v, r', rfl, hv, hr⟩ := r
    simp only [Tg.sets] at e
    split at e
    · rename_i e1 h1
      refine ⟨v, r', rfl, B, F, τ, st, x, e1, .inl hv, h1, fun σ1 τ1 s1 s2 s3 s4 => ?_⟩
      refine ⟨B, F, τ1, s1, xs, e', hr, by rw [s2]; exact e, fun σ2 τ2 t1 t2 t3 t4 => q σ2 τ2 t1 t2 (t3.trans s3) fun j hj => ?_⟩
      simp only [Tg.nss, List.mem_append, not_or] at hj
      exact (t4 j hj.2).trans (s4 j hj.1)
    · cases e
theorem g_weak {g : Tg} {v : V} {Q : L2.St → Hp → Prop} (h : TGf K ct false g v σ H Q) : TGf K ct pl g v σ H Q := by
  obtain ⟨B, F, τ, st, x, e', r, e, q⟩ := h
  refine ⟨B, F, τ, st, x, e', ?_, e, q⟩
  rcases r with r | ⟨z, _⟩
  · exact .inl r
  · cases z

/-! ### comprehensions -/
def wipeT (τ : TE0) : List Nat → TE0
  | [] => τ
  | v :: vs => (wipeT τ vs).set v none
theorem erE_wipe : ∀ {vs : List Nat}, erE (wipeT τ vs) = wipeE (erE τ) vs
  | [] => rfl
  | v :: vs => by simp only [wipeT, wipeE]; rw [erE_set, erE_wipe]; rfl
theorem wipe_get {α : Type} (f : List (Option α) → List Nat → List (Option α)) (h0 : ∀ l, f l [] = l) (h1 : ∀ l v vs, f l (v :: vs) = (f l vs).set v none) :
    ∀ {vs : List Nat} {l : List (Option α)} {j : Nat}, (f l vs).length = l.length ∧ (f l vs)[j]? = if j ∈ vs ∧ j < l.length then some none else l[j]?
  | [], l, j => by simp [h0]
  | v :: vs, l, j => by
    obtain ⟨a, b⟩ := wipe_get f h0 h1 (vs := vs) (l := l) (j := j)
    rw [h1]
    refine ⟨by rw [List.length_set, a], ?_⟩
    by_cases e : v = j
    · subst e
      by_cases hl : v < l.length
      · rw [List.getElem?_set_self (by rw [a]; exact hl)]
        simp [hl]
      · rw [List.getElem?_eq_none (by rw [List.length_set, a]; omega), if_neg (by simp [hl]), List.getElem?_eq_none (by omega)]
    · rw [List.getElem?_set_ne e, b]
      have : j ∈ v :: vs ↔ j ∈ vs := by rw [List.mem_cons]; exact ⟨fun z => z.resolve_left fun q => e q.symm, .inr⟩
      simp only [this]
theorem wT_get {vs : List Nat} {l : TE0} {j : Nat} : (wipeT l vs)[j]? = if j ∈ vs ∧ j < l.length then some none else l[j]? := (wipe_get wipeT (fun _ => rfl) (fun _ _ _ => rfl)).2
theorem wT_len {vs : List Nat} {l : TE0} : (wipeT l vs).length = l.length := (wipe_get wipeT (fun _ => rfl) (fun _ _ _ => rfl) (j := 0)).1
theorem wE_get {vs : List Nat} {l : Env} {j : Nat} : (wipeE l vs)[j]? = if j ∈ vs ∧ j < l.length then some none else l[j]? := (wipe_get wipeE (fun _ => rfl) (fun _ _ _ => rfl)).2
theorem wE_len {vs : List Nat} {l : Env} : (wipeE l vs).length = l.length := (wipe_get wipeE (fun _ => rfl) (fun _ _ _ => rfl) (j := 0)).1
theorem wS_get {vs : List Nat} {l : L2.St} {j : Nat} : (L2.wipe l vs)[j]? = if j ∈ vs ∧ j < l.length then some none else l[j]? := (wipe_get L2.wipe (fun _ => rfl) (fun _ _ _ => rfl)).2
theorem wS_len {vs : List Nat} {l : L2.St} : (L2.wipe l vs).length = l.length := (wipe_get L2.wipe (fun _ => rfl) (fun _ _ _ => rfl) (j := 0)).1
theorem bE_get : ∀ {vs : List Nat} {e0 l : Env} {j : Nat}, (backE e0 l vs).length = l.length ∧ (backE e0 l vs)[j]? = if j ∈ vs ∧ j < l.length then some (e0.getD j none) else l[j]?
  | [], e0, l, j => by simp [backE]
  | v :: vs, e0, l, j => by
    obtain ⟨a, b⟩ := bE_get (vs := vs) (e0 := e0) (l := l) (j := j)
    simp only [backE]
    refine ⟨by rw [List.length_set, a], ?_⟩
    by_cases e : v = j
    · subst e
      by_cases hl : v < l.length
      · rw [List.getElem?_set_self (by rw [a]; exact hl)]
        simp [hl]
      · rw [List.getElem?_eq_none (by rw [List.length_set, a]; omega), if_neg (by simp [hl]), List.getElem?_eq_none (by omega)]
    · rw [List.getElem?_set_ne e, b]
      have : j ∈ v :: vs ↔ j ∈ vs := by rw [List.mem_cons]; exact ⟨fun z => z.resolve_left fun q => e q.symm, .inr⟩
      simp only [this]
theorem back_wipe {e0 e : Env} {vs : List Nat} : backE e0 (wipeE e vs) vs = backE e0 e vs := by
  apply List.ext_getElem?
  intro j
  rw [bE_get.2, bE_get.2, wE_get, wE_len]
  by_cases h : j ∈ vs ∧ j < e.length
  · rw [if_pos h, if_pos h]
  · rw [if_neg h, if_neg h, if_neg h]
def backT (τ0 : TE0) (τ : TE0) : List Nat → TE0
  | [] => τ
  | v :: vs => (backT τ0 τ vs).set v (τ0.getD v none)
theorem erE_back {τ0 : TE0} : ∀ {vs : List Nat}, erE (backT τ0 τ vs) = backE (erE τ0) (erE τ) vs
  | [] => rfl
  | v :: vs => by
    simp only [backT, backE]
    rw [erE_set, erE_back]
    congr 1
    unfold erE
    rw [List.getD_eq_getElem?_getD, List.getD_eq_getElem?_getD, List.getElem?_map]
    cases τ0[v]? with
    | none => rfl
    | some o => rfl
theorem St.wipe (st : St K ct B F σ τ H) : ∀ vs : List Nat, St K ct B F (L2.wipe σ vs) (wipeT τ vs) H
  | [] => st
  | v :: vs => by
    have s := St.wipe st vs
    refine ⟨cells_drop s.wf rfl, s.ok.set fun t e => (nomatch e), ?_⟩
    simp only [L2.wipe, wipeT]
    refine ⟨by rw [List.length_set, List.length_set]; exact s.rel.len, fun i t e => ?_⟩
    by_cases h : v = i
    · subst h
      by_cases hl : v < (wipeT τ vs).length
      · rw [List.getElem?_set_self hl] at e; cases e
      · rw [List.getElem?_eq_none (by simpa using hl)] at e; cases e
    · rw [List.getElem?_set_ne h] at e ⊢
      exact s.rel.at_ i t e
theorem wipe_idem {σ σ2 : L2.St} {vs : List Nat} (hl : σ2.length = σ.length) (h : ∀ j, j ∉ vs → σ2[j]? = (L2.wipe σ vs)[j]?) : L2.wipe σ2 vs = L2.wipe σ vs := by
  apply List.ext_getElem?
  intro j
  rw [wS_get, wS_get]
  by_cases hj : j ∈ vs
  · by_cases h2 : j < σ.length
    · rw [if_pos ⟨hj, by rw [hl]; exact h2⟩, if_pos ⟨hj, h2⟩]
    · rw [if_neg (fun z => h2 (by rw [← hl]; exact z.2)), if_neg (fun z => h2 z.2), List.getElem?_eq_none (by omega), List.getElem?_eq_none (by omega)]
  · rw [if_neg (fun z => hj z.1), if_neg (fun z => hj z.1), h j hj, wS_get, if_neg (fun z => hj z.1)]
theorem slot_get {e : Env} {v : Nat} : e.slot v = (match e[v]? with | some (some m) => some m | _ => none) := rfl
theorem St.back {τ1 : TE0} {B1 H1 : Hp} {F1 F2 : List Cell} (s1 : St K ct B1 F1 σ τ1 H1) {vs : List Nat} (s : St K ct B F2 (L2.wipe σ vs) τ H) (sb : Same B1 B) (fl : flatE (erE τ1) vs = true) : St K ct B F2 σ (backT τ1 τ vs) H := by
  have flat : ∀ v ∈ vs, ∀ t, τ1.getD v none = some t → ∃ x u, t = .d x u ∧ τ1[v]? = some (some t) := fun v hv t e => by
    rw [List.getD_eq_getElem?_getD] at e
    cases h : τ1[v]? with
    | none => rw [h] at e; cases e
    | some o =>
      rw [h] at e
      simp only [Option.getD_some] at e
      subst e
      unfold flatE at fl
      have := List.all_eq_true.mp fl v hv
      rw [slot_erE h] at this
      cases t with
      | d x u => exact ⟨x, u, rfl, rfl⟩
      | lst a ts => simp [MA.er] at this
      | obj c C dx a ns ts => simp [MA.er] at this
  refine ⟨?_, ?_, ?_⟩
  · have : ∀ ws : List Nat, (∀ v ∈ ws, v ∈ vs) → Wf B (cellsE (backT τ1 τ ws) ++ F2) H := by
      intro ws
      induction ws with
      | nil => intro _; exact s.wf
      | cons v ws ih =>
        intro hw
        refine cells_drop (ih fun u hu => hw u (List.mem_cons_of_mem _ hu)) ?_
        cases h : τ1.getD v none with
        | none => rfl
        | some t =>
          obtain ⟨x, u, rfl, _⟩ := flat v (hw v List.mem_cons_self) t h
          simp [cellsO, MA.cells]
    exact this vs fun _ h => h
  · have : ∀ ws : List Nat, (∀ v ∈ ws, v ∈ vs) → OkE K ct B (backT τ1 τ ws) := by
      intro ws
      induction ws with
      | nil => intro _; exact s.ok
      | cons v ws ih =>
        intro hw
        refine (ih fun u hu => hw u (List.mem_cons_of_mem _ hu)).set fun t e => ?_
        obtain ⟨x, u, rfl, h2⟩ := flat v (hw v List.mem_cons_self) t e
        exact (s1.ok v _ h2).mono sb
    exact this vs fun _ h => h
  · have get : ∀ (ws : List Nat) (j : Nat), (backT τ1 τ ws).length = τ.length ∧ (backT τ1 τ ws)[j]? = if j ∈ ws ∧ j < τ.length then some (τ1.getD j none) else τ[j]? := by
      intro ws
      induction ws with
      | nil => intro j; simp [backT]
      | cons v ws ih =>
        intro j
        obtain ⟨a, b⟩ := ih j
        simp only [backT]
        refine ⟨by rw [List.length_set, a], ?_⟩
        by_cases e : v = j
        · subst e
          by_cases hl : v < τ.length
          · rw [List.getElem?_set_self (by rw [a]; exact hl)]; simp [hl]
          · rw [List.getElem?_eq_none (by rw [List.length_set, a]; omega), if_neg (by simp [hl]), List.getElem?_eq_none (by omega)]
        · rw [List.getElem?_set_ne e, b]
          have : j ∈ v :: ws ↔ j ∈ ws := by rw [List.mem_cons]; exact ⟨fun z => z.resolve_left fun q => e q.symm, .inr⟩
          simp only [this]
    have hlen : σ.length = τ.length := by have := s.rel.len; rw [wS_len] at this; exact this
    refine ⟨by rw [(get vs 0).1]; exact hlen, fun i t e => ?_⟩
    rw [(get vs i).2] at e
    split at e
    · rename_i hi
      obtain ⟨x, u, rfl, h2⟩ := flat i hi.1 t (by simpa using e)
      exact s1.rel.at_ i _ h2
    · have := s.rel.at_ i t e
      exact (L2.wipe_some this).1
theorem comp_len {g : Tg} {t : ST} {c : SE} {vs : List Nat} : ∀ {xs : List D} {e e' : Env} {ms : List M}, compL g t c vs xs e = some (ms, e') → ms.length ≤ xs.length
  | [], e, e', ms, h => by simp only [compL, Option.some.injEq, Prod.mk.injEq] at h; rw [← h.1]; simp
  | x :: r, e, e', ms, h => by
    simp only [compL] at h
    split at h
    · cases h
    · split at h
      · cases h
      · have := comp_len h
        simp only [List.length_cons]; omega
      · split at h
        · cases h
        · split at h
          · rename_i h2
            cases h
            have := comp_len h2
            simp only [List.length_cons]; omega
          · cases h
theorem e_comp {vs : List Nat} {it : SI} {g : Tg} {t : ST} {c : SE} {Q : VK} (h : TEf K ct (cComp vs it g t c) σ H Q) : L2.tLc (TIf K ct pl it) (TGf K ct pl g) (TTf K ct t) (TEf K ct c) vs σ H Q := by
  obtain ⟨B, F, τ, st, m, e', e, q⟩ := h
  unfold cComp at e
  split at e
  · cases e
  · rename_i xs e1 hi
    split at e
    · rename_i hc
      obtain ⟨hlen, hfl, hg⟩ := hc
      split at e
      · rename_i ms e2 hL
        cases e
        refine ⟨B, F, τ, st, xs, e1, hi, fun J H1 B1 τ1 af w => ?_⟩
        intro D hD
        have hns : ∀ j, j ∉ vs → j ∉ g.ns := fun j hj hm => hj (by
          have := List.all_eq_true.mp hg j hm
          simpa using this)
        have s1 := af.st
        refine L2.lc_it (Y := J.yld) (n := xs.length) (G := fun H => Same B1 H) ⟨fun i H hi sb => w.goes i H hi sb, fun H sb => w.stops H sb, fun i H x H' _ _ y => y⟩
          (fun i H' => ∃ B' τ' ts ei msr, St K ct B' ((MA.lst D ts).cells ++ F) (L2.wipe σ vs) τ' H' ∧ Same B1 B' ∧ MA.oks K ct B' ts ∧ ts.length ≤ i ∧ wipeE ei vs = erE τ' ∧ compL g t c vs (xs.drop i) ei = some (msr, e2) ∧ MA.ers ts ++ msr = ms) ?_ ?_ ?_ ?_
        · refine ⟨B1, wipeT τ1 vs, [], e1, ms, ?_, Same.refl _, by unfold MA.oks; trivial, Nat.zero_le _, by rw [erE_wipe, af.ee], by simpa using hL, by simp [MA.ers]⟩
          have s2 := s1.wipe vs
          refine St.ofFront ?_ s2.ok s2.rel
          simp only [MA.cells, MA.cellsL, List.map_nil, List.cons_append, List.nil_append]
          exact s2.wf.owned hD
        · rintro i H' hi ⟨B', τ', ts, ei, msr, s2, sb, _⟩
          exact sb.trans s2.wf.sub
        · rintro i v H2 H3 hi ⟨B', τ', ts, ei, msr, s2, sb, oks, htl, hwe, hcl, hms⟩ y
          obtain ⟨B2, w2, sb2, x, hx, ry⟩ := w.yields i H2 v H3 _ B' hi sb s2.wf y
          have s3 : St K ct B2 ((MA.lst D ts).cells ++ F) (L2.wipe σ vs) τ' H3 := ⟨w2, s2.ok.mono sb2, s2.rel⟩
          have hdrop : xs.drop i = x :: xs.drop (i + 1) := by
            rw [List.drop_eq_getElem_cons hi]
            rw [List.getElem?_eq_getElem hi] at hx
            cases hx; rfl
          rw [hdrop] at hcl
          simp only [compL] at hcl
          split at hcl
          · cases hcl
          · rename_i e3 hset
            rw [hwe] at hset
            refine ⟨B2, _, τ', s3, x, e3, ry, hset, fun σ4 τ4 s4 ee4 hl4 hk4 => ?_⟩
            have hw : L2.wipe σ4 vs = L2.wipe σ vs := wipe_idem (by rw [hl4, wS_len]) fun j hj => hk4 j (hns j hj)
            refine ⟨hw, ?_⟩
            split at hcl
            · cases hcl
            · rename_i e5 ht
              refine ⟨B2, _, τ4, s4, false, e5, by rw [ee4]; exact ht, fun H5 B5 τ5 a5 => ?_⟩
              have s5 := a5.st.wipe vs
              rw [hw] at s5
              simp only [Bool.false_eq_true, if_false]
              exact ⟨B5, wipeT τ5 vs, ts, e5, msr, s5, (sb.trans sb2).trans a5.sb, (oks.mono sb2).mono a5.sb, Nat.le_succ_of_le htl, by rw [erE_wipe, a5.ee], hcl, hms⟩
            · rename_i e5 ht
              refine ⟨B2, _, τ4, s4, true, e5, by rw [ee4]; exact ht, fun H5 B5 τ5 a5 => ?_⟩
              simp only [if_true]
              split at hcl
              · cases hcl
              · rename_i mm e6 hcc
                split at hcl
                · rename_i mr e7 hcr
                  cases hcl
                  refine ⟨B5, _, τ5, a5.st, mm, e6, by rw [a5.ee]; exact hcc, fun u H6 B6 tu τ6 a6 => ?_⟩
                  have fr := a6.st.front
                  have own : H6 D = some (.lst (ts.map MA.val)) := (a6.st.wf.own (D, .lst (ts.map MA.val)) (by simp [MA.cells])).1
                  refine ⟨ts.map MA.val, own, by rw [List.length_map, line_eq]; omega, ?_⟩
                  have s6 : St K ct B6 ((MA.lst D (ts ++ [tu])).cells ++ F) σ4 τ6 (upd H6 D (.lst (ts.map MA.val ++ [u]))) := by
                    refine ⟨?_, a6.st.ok, a6.st.rel⟩
                    have w6 : Wf B6 ((D, .lst (ts.map MA.val)) :: (MA.cellsL ts ++ tu.cells ++ (cellsE τ6 ++ F))) H6 := by
                      refine a6.st.wf.perm ?_
                      simp only [MA.cells]
                      have p1 : ∀ (a b c d : List Cell) (x : Cell), (a ++ (b ++ (x :: c ++ d))).Perm (x :: (c ++ b ++ (a ++ d))) := fun a b c d x => by
                        have q1 : (a ++ b ++ x :: (c ++ d)).Perm (x :: (a ++ b ++ (c ++ d))) := List.perm_middle
                        have q2 : (a ++ (b ++ c) ++ d).Perm (b ++ c ++ a ++ d) := List.Perm.append_right _ List.perm_append_comm
                        have q3 : (b ++ c ++ (a ++ d)).Perm (c ++ b ++ (a ++ d)) := List.Perm.append_right _ List.perm_append_comm
                        simp only [List.append_assoc, List.cons_append] at q1 q2 q3 ⊢
                        exact q1.trans (List.Perm.cons _ (q2.trans q3))
                      simpa using p1 (cellsE τ6) tu.cells (MA.cellsL ts) F (D, .lst (ts.map MA.val))
                    have w7 := Wf.write (o' := .lst (ts.map MA.val ++ [u])) w6
                    refine w7.perm ?_
                    simp only [MA.cells, cellsL_app, MA.cellsL, List.append_nil, List.map_append, List.map_cons, List.map_nil]
                    rw [a6.ev]
                    have p2 : ∀ (a c d : List Cell) (x : Cell), (x :: (c ++ (a ++ d))).Perm (a ++ ((x :: c) ++ d)) := fun a c d x => by
                      have : (x :: c ++ (a ++ d)).Perm (a ++ ((x :: c) ++ d)) := by
                        rw [← List.append_assoc, ← List.append_assoc]
                        exact List.Perm.append_right _ List.perm_append_comm
                      exact this
                    exact p2 _ _ _ _
                  have s7 := s6.wipe vs
                  rw [hw] at s7
                  refine ⟨B6, wipeT τ6 vs, ts ++ [tu], e6, mr, s7, ((sb.trans sb2).trans a5.sb).trans a6.sb, ?_, by rw [List.length_append]; exact Nat.succ_le_succ htl, by rw [erE_wipe, a6.ee], hcr, ?_⟩
                  · refine oks_iff.mpr fun z hz => ?_
                    rcases List.mem_append.mp hz with hz | hz
                    · exact ((oks_iff.mp oks z hz).mono sb2 |>.mono a5.sb).mono a6.sb
                    · cases List.mem_singleton.mp hz
                      exact a6.ok
                  · rw [ers_map] at hms ⊢
                    rw [List.map_append, List.append_assoc]
                    simpa [a6.em] using hms
                · cases hcl
        · rintro H2 ⟨B', τ', ts, ei, msr, s2, sb, oks, htl, hwe, hcl, hms⟩
          rw [List.drop_length] at hcl
          simp only [compL, Option.some.injEq, Prod.mk.injEq] at hcl
          obtain ⟨rfl, rfl⟩ := hcl
          rw [List.append_nil] at hms
          have s3 := St.back s1 s2 sb (by rw [af.ee]; exact hfl)
          refine q _ H2 B' (.lst D ts) _ ⟨s3, by unfold MA.ok; exact oks, af.sb.trans sb, ?_, by simp only [MA.er, hms], rfl⟩
          rw [erE_back, af.ee, ← hwe, back_wipe]
      · cases e
    · cases e
end
end Ev
set_option Elab.async false
set_option linter.all false
set_option maxRecDepth 100000
set_option maxHeartbeats 1000000
/-! Statements. -/
namespace Ev
open PySem PySem.Spec PyProof.Rows PySem.Calls
open L2 (V HO Hp SqL SqT Same upd upd_same upd_ne Cx PE PT PA PI PG PS PSs Ends It Inv RelV Vals VK Gl TI)

section
variable (K : PySem.W.Frag) (ct : Str → Option Addr) (fx : List Nat)
/-- behind a statement; the slots fx are bound as they were -/
structure AftS (B : Hp) (F : List Cell) (σ : L2.St) (e : Env) (σ' : L2.St) (H' B' : Hp) (τ' : TE0) : Prop where
  st : St K ct B' F σ' τ' H'
  sb : Same B B'
  ee : erE τ' = e
  kp : ∀ i ∈ fx, σ'[i]? = σ[i]?
/-- behind a return -/
structure AftR (B : Hp) (F : List Cell) (σ : L2.St) (m : M) (e : Env) (v : V) (σ' : L2.St) (H' B' : Hp) (t : MA) (τ' : TE0) : Prop where
  a : Aft K ct B F σ' m e v H' B' t τ'
  kp : ∀ i ∈ fx, σ'[i]? = σ[i]?
def EndsD (B : Hp) (F : List Cell) (σ : L2.St) (r : R) (D : Ends) : Prop := match r with
  | .nx e => ∀ σ' H' B' τ', AftS K ct fx B F σ e σ' H' B' τ' → D.nx σ' H'
  | .bk e => ∀ σ' H' B' τ', AftS K ct fx B F σ e σ' H' B' τ' → D.bk σ' H'
  | .ct e => ∀ σ' H' B' τ', AftS K ct fx B F σ e σ' H' B' τ' → D.ct σ' H'
  | .rt m e => ∀ v σ' H' B' t τ', AftR K ct fx B F σ m e v σ' H' B' t τ' → D.rt v H'
def TSf (f : SS) : L2.TS := fun D σ H => ∃ B F τ, St K ct B F σ τ H ∧ ∃ r, f (erE τ) = some r ∧ EndsD K ct fx B F σ r D
end
section
variable {K : PySem.W.Frag} {ct : Str → Option Addr} {fx : List Nat} {B B' H H' : Hp} {F : List Cell} {σ σ' : L2.St} {τ : TE0} {pl : Bool} {D : Ends}

theorem EndsD.mono {r : R} (h : EndsD K ct fx B F σ r D) (sb : Same B B') (kp : ∀ i ∈ fx, σ'[i]? = σ[i]?) : EndsD K ct fx B' F σ' r D := by
  cases r with
  | nx e => exact fun σ2 H2 B2 τ2 a => h σ2 H2 B2 τ2 ⟨a.st, sb.trans a.sb, a.ee, fun i hi => (a.kp i hi).trans (kp i hi)⟩
  | bk e => exact fun σ2 H2 B2 τ2 a => h σ2 H2 B2 τ2 ⟨a.st, sb.trans a.sb, a.ee, fun i hi => (a.kp i hi).trans (kp i hi)⟩
  | ct e => exact fun σ2 H2 B2 τ2 a => h σ2 H2 B2 τ2 ⟨a.st, sb.trans a.sb, a.ee, fun i hi => (a.kp i hi).trans (kp i hi)⟩
  | rt m e => exact fun v σ2 H2 B2 t τ2 a => h v σ2 H2 B2 t τ2 ⟨Aft.of sb a.a, fun i hi => (a.kp i hi).trans (kp i hi)⟩
/-- the ends at which a part leaves to a whole -/
theorem EndsD.nxt {r : R} {N : L2.St → Hp → Prop} (h : EndsD K ct fx B F σ r D) (hr : ∀ e, r ≠ .nx e) : EndsD K ct fx B F σ r { D with nx := N } := by
  cases r with
  | nx e => exact absurd rfl (hr e)
  | bk e => exact h
  | ct e => exact h
  | rt m e => exact h
theorem s_skip (h : TSf K ct fx sSkip D σ H) : L2.tNext D σ H := by
  obtain ⟨B, F, τ, st, r, e, q⟩ := h
  simp only [sSkip, Option.some.injEq] at e
  subst e
  exact q σ H B τ ⟨st, Same.refl _, rfl, fun _ _ => rfl⟩
theorem s_break (h : TSf K ct fx sBreak D σ H) : L2.tBreak D σ H := by
  obtain ⟨B, F, τ, st, r, e, q⟩ := h
  simp only [sBreak, Option.some.injEq] at e
  subst e
  exact q σ H B τ ⟨st, Same.refl _, rfl, fun _ _ => rfl⟩
theorem s_cont (h : TSf K ct fx sCont D σ H) : L2.tCont D σ H := by
  obtain ⟨B, F, τ, st, r, e, q⟩ := h
  simp only [sCont, Option.some.injEq] at e
  subst e
  exact q σ H B τ ⟨st, Same.refl _, rfl, fun _ _ => rfl⟩
theorem s_fail (h : TSf K ct fx sFail D σ H) : L2.tNever D σ H := by
  obtain ⟨B, F, τ, st, r, e, q⟩ := h
  cases e
theorem s_seq {a b : SS} (h : TSf K ct fx (sSeq a b) D σ H) : L2.tSeq (TSf K ct fx a) (TSf K ct fx b) D σ H := by
  obtain ⟨B, F, τ, st, r, e, q⟩ := h
  unfold sSeq at e
  cases ha : a (erE τ) with
  | none => rw [ha] at e; cases e
  | some r1 =>
    rw [ha] at e
    refine ⟨B, F, τ, st, r1, ha, ?_⟩
    cases r1 with
    | nx e1 =>
      intro σ1 H1 B1 τ1 a1
      exact ⟨B1, F, τ1, a1.st, r, by rw [a1.ee]; exact e, q.mono a1.sb a1.kp⟩
    | bk e1 => cases e; exact q
    | ct e1 => cases e; exact q
    | rt m e1 => cases e; exact q
theorem s_drop {c : SE} (h : TSf K ct fx (sDrop c) D σ H) : L2.tDrop (TEf K ct c) D σ H := by
  obtain ⟨B, F, τ, st, r, e, q⟩ := h
  unfold sDrop at e
  split at e
  · rename_i m e1 hc
    cases e
    refine ⟨B, F, τ, st, m, e1, hc, fun v H1 B1 t τ1 af => ?_⟩
    have d := af.drop
    exact q σ H1 B1 τ1 ⟨d.st, d.sb, d.ee, fun _ _ => rfl⟩
  · cases e
/-- a new tree in a slot -/
theorem St.sett {t : MA} {i : Nat} (st : St K ct B (t.cells ++ F) σ τ H) (ok : t.ok K ct B) : St K ct B F (σ.set i (some t.val)) (τ.set i (some t)) H := by
  refine ⟨?_, st.ok.set fun u e => by cases e; exact ok, st.rel.set⟩
  cases ht : τ[i]? with
  | none =>
    rw [List.set_eq_of_length_le (by simpa using ht)]
    exact st.front.drop
  | some u =>
    obtain ⟨R, h1, h2⟩ := cellsE_set ht
    have w1 : Wf B (cellsO u ++ (R ++ (t.cells ++ F))) H := st.wf.perm (by simpa only [List.append_assoc] using List.Perm.append_right (t.cells ++ F) h1)
    refine w1.drop.perm ?_
    have h3 := h2 (some t)
    simp only [cellsO] at h3
    refine List.Perm.trans ?_ (List.Perm.append_right F h3.symm)
    rw [← List.append_assoc]
    exact List.Perm.append_right _ List.perm_append_comm
theorem s_asg {i : Nat} {c : SE} (hi : i ∉ fx) (h : TSf K ct fx (sAsg i c) D σ H) : L2.tAsg (TEf K ct c) (L2.gName i) D σ H := by
  obtain ⟨B, F, τ, st, r, e, q⟩ := h
  unfold sAsg at e
  split at e
  · rename_i m e1 hc
    cases e
    refine ⟨B, F, τ, st, m, e1, hc, fun v H1 B1 t τ1 af => ?_⟩
    have s1 := St.sett (i := i) af.st af.ok
    rw [af.ev] at s1
    exact q _ H1 B1 _ ⟨s1, af.sb, by rw [erE_set, af.ee, Option.map_some, af.em], fun j hj => List.getElem?_set_ne (fun z => by subst z; exact hi hj)⟩
  · cases e
theorem s_tgt {g : Tg} {c : SE} (hg : ∀ j ∈ g.ns, j ∉ fx) (h : TSf K ct fx (sTgt g c) D σ H) : L2.tAsg (TEf K ct c) (TGf K ct pl g) D σ H := by
  obtain ⟨B, F, τ, st, r, e, q⟩ := h
  unfold sTgt at e
  split at e
  · rename_i m e1 hc
    split at e
    · rename_i e2 hs
      cases e
      refine e_one st hc fun v H1 B1 τ1 st1 sb1 ee rv => ?_
      exact ⟨B1, F, τ1, st1, _, e2, .inl rv, by rw [ee]; exact hs, fun σ2 τ2 s2 ee2 _ kp => q σ2 H1 B1 τ2 ⟨s2, sb1, ee2, fun j hj => kp j fun z => hg j z hj⟩⟩
    · cases e
  · cases e
theorem s_ret {c : SE} (h : TSf K ct fx (sRet c) D σ H) : L2.tRet (TEf K ct c) D σ H := by
  obtain ⟨B, F, τ, st, r, e, q⟩ := h
  unfold sRet at e
  split at e
  · rename_i m e1 hc
    cases e
    exact ⟨B, F, τ, st, m, e1, hc, fun v H1 B1 t τ1 af => q v σ H1 B1 t τ1 ⟨af, fun _ _ => rfl⟩⟩
  · cases e
theorem s_retN (h : TSf K ct fx sRetN D σ H) : L2.tRetN D σ H := by
  obtain ⟨B, F, τ, st, r, e, q⟩ := h
  simp only [sRetN, Option.some.injEq] at e
  subst e
  exact q .non σ H B _ τ ⟨aft_d st (by unfold RepD; rfl), fun _ _ => rfl⟩
theorem s_retV {i : Nat} (h : TSf K ct fx (sRetV i) D σ H) : L2.tRet (L2.tVar i) D σ H := by
  obtain ⟨B, F, τ, st, r, e, q⟩ := h
  unfold sRetV at e
  split at e
  · rename_i m hm
    cases e
    obtain ⟨t, ht, rfl⟩ := erE_slot hm
    refine ⟨t.val, st.rel.at_ i t ht, q _ σ H B t (τ.set i none) ⟨⟨?_, st.ok i t ht, Same.refl _, by rw [erE_set]; rfl, rfl, rfl⟩, fun _ _ => rfl⟩⟩
    obtain ⟨R, h1, h2⟩ := cellsE_set ht
    have h3 := h2 none
    refine ⟨st.wf.perm ?_, st.ok.set fun u z => (nomatch z), st.rel.keep fun u z => (nomatch z)⟩
    simp only [cellsO, List.nil_append] at h1 h3
    refine (List.Perm.append_right F h1).trans ?_
    refine List.Perm.trans ?_ (List.Perm.append_right _ h3.symm)
    rw [← List.append_assoc]
    exact List.Perm.append_right _ List.perm_append_comm
  · cases e
theorem s_if {t : ST} {a b : SS} (h : TSf K ct fx (sIf t a b) D σ H) : L2.tIfS (TTf K ct t) (TSf K ct fx a) (TSf K ct fx b) D σ H := by
  obtain ⟨B, F, τ, st, r, e, q⟩ := h
  unfold sIf at e
  split at e
  · rename_i x e1 ht
    refine ⟨B, F, τ, st, x, e1, ht, fun H1 B1 τ1 af => ?_⟩
    cases x with
    | true =>
      simp only [if_true] at e ⊢
      exact ⟨B1, F, τ1, af.st, r, by rw [af.ee]; exact e, q.mono af.sb fun _ _ => rfl⟩
    | false =>
      simp only [Bool.false_eq_true, if_false] at e ⊢
      exact ⟨B1, F, τ1, af.st, r, by rw [af.ee]; exact e, q.mono af.sb fun _ _ => rfl⟩
  · cases e
theorem s_assert {t : ST} (h : TSf K ct fx (sAssert t) D σ H) : L2.tAssert (TTf K ct t) D σ H := by
  obtain ⟨B, F, τ, st, r, e, q⟩ := h
  unfold sAssert at e
  split at e
  · rename_i e1 ht
    cases e
    exact ⟨B, F, τ, st, true, e1, ht, fun H1 B1 τ1 af => ⟨rfl, q σ H1 B1 τ1 ⟨af.st, af.sb, af.ee, fun _ _ => rfl⟩⟩⟩
  · cases e

/-! ### changes in place -/
theorem t_lst {t : MA} {m : List M} (h : t.er = .lst m) : ∃ a ts, t = .lst a ts ∧ MA.ers ts = m := by
  cases t with
  | d x v => simp [MA.er] at h
  | lst a ts => exact ⟨a, ts, rfl, by simpa [MA.er] using h⟩
  | obj c C dx a ns ts => simp [MA.er] at h
theorem s_idx {k : SK} {qi : SP} {c : SE} (h : TSf K ct fx (sIdx k qi c) D σ H) : L2.tAsg (TEf K ct c) (L2.gSub (TKf K ct k) (TPf K ct qi) L2.rSetL) D σ H := by
  obtain ⟨B, F, τ, st, r, e, q⟩ := h
  unfold sIdx at e
  split at e
  · rename_i x e1 hc
    split at e
    · rename_i i p hk
      split at e
      · rename_i n hq
        split at e
        · rename_i m hm
          split at e
          · rename_i m' hm'
            cases e
            refine ⟨B, F, τ, st, x, e1, hc, fun v H1 B1 tx τ1 af => ?_⟩
            rw [← af.ee] at hk hq hm
            have s1 : St K ct B1 (tx.cells ++ F) σ τ1 H1 := af.st
            refine ⟨B1, _, τ1, s1, _, hk, fun o ho => ?_⟩
            obtain ⟨t, s, ht, hs, hv⟩ := ho
            refine ⟨B1, _, τ1, s1, _, hq, fun iv hi => ?_⟩
            unfold RepD at hi
            subst hi
            rw [at_erE ht hs] at hm
            cases hm
            unfold M.setI at hm'
            split at hm'
            · rename_i ms hms
              obtain ⟨a, ts, rfl, hts⟩ := t_lst hms
              split at hm'
              · rename_i j hj
                cases hm'
                have hv2 : V.ref a = o := hv
                subst hv2
                have hjl := (L2.ixN_seq hj).2.1
                rw [← hts, ers_map, List.length_map] at hj hjl
                refine ⟨a, ts.map MA.val, n, j, rfl, rfl, cell_of s1 ht hs (a, _) (by simp [MA.cells]), by rw [List.length_map]; exact hj, ?_⟩
                have hu : ts[j]? = some ts[j] := List.getElem?_eq_getElem hjl
                obtain ⟨R0, z1, z2⟩ := cellsL_set hu
                -- the new container
                have s2 : St K ct B1 F σ (τ1.set i (some (t.put p (.lst a (ts.set j tx))))) (upd H1 a (.lst ((ts.map MA.val).set j v))) := by
                  obtain ⟨R1, y1, y2⟩ := cellsE_set ht
                  obtain ⟨R2, x1, x2⟩ := put_cells hs
                  have hok := ok_sub hs (s1.ok i t ht)
                  unfold MA.ok at hok
                  refine ⟨?_, s1.ok.set fun u z => ?_, s1.rel.keep fun u z => ?_⟩
                  · have w0 : Wf B1 ((a, .lst (ts.map MA.val)) :: (ts[j].cells ++ (R0 ++ R2 ++ R1 ++ (tx.cells ++ F)))) H1 := by
                      refine s1.wf.perm ?_
                      refine (List.Perm.append_right _ (y1.trans (List.Perm.append_right R1 x1))).trans ?_
                      simp only [MA.cells, List.cons_append]
                      refine List.Perm.cons _ ?_
                      have := List.Perm.append_right (R2 ++ (R1 ++ (tx.cells ++ F))) z1
                      simpa only [List.append_assoc] using this
                    have w1 : Wf B1 ((a, .lst (ts.map MA.val)) :: (R0 ++ R2 ++ R1 ++ (tx.cells ++ F))) H1 := by
                      have := w0.perm (List.perm_middle (a := (a, HO.lst (ts.map MA.val))) (l₁ := ts[j].cells) (l₂ := R0 ++ R2 ++ R1 ++ (tx.cells ++ F))).symm
                      exact this.drop
                    have w2 := Wf.write (o' := .lst ((ts.map MA.val).set j v)) w1
                    refine w2.perm ?_
                    have z3 := z2 tx
                    have x3 := x2 (.lst a (ts.set j tx)) rfl
                    have y3 := y2 (some (t.put p (.lst a (ts.set j tx))))
                    refine List.Perm.trans ?_ (List.Perm.append_right F (y3.trans (List.Perm.append_right R1 x3))).symm
                    simp only [MA.cells, List.cons_append, List.map_set, af.ev]
                    refine List.Perm.cons _ ?_
                    refine List.Perm.trans ?_ (List.Perm.append_right F (List.Perm.append_right R1 (List.Perm.append_right R2 z3))).symm
                    have q2 : (R0 ++ R2 ++ R1 ++ tx.cells ++ F).Perm (tx.cells ++ (R0 ++ R2 ++ R1) ++ F) := List.Perm.append_right _ List.perm_append_comm
                    simpa only [List.append_assoc] using q2
                  · cases z
                    refine ok_put hs (s1.ok i t ht) ?_
                    unfold MA.ok
                    refine oks_iff.mpr fun y hy => ?_
                    rcases List.mem_or_eq_of_mem_set hy with z | z
                    · exact oks_iff.mp hok y z
                    · subst z; exact af.ok
                  · cases z
                    exact ⟨t, ht, (put_val (s' := .lst a (ts.set j tx)) hs rfl).symm⟩
                refine q σ _ B1 _ ⟨s2, af.sb, ?_, fun _ _ => rfl⟩
                rw [← af.ee]
                have pe := putAt_erE (s' := .lst a (ts.set j tx)) ht hs
                simp only [MA.er] at pe
                rw [← pe]
                congr 1
                simp only [MA.er] at hms
                cases hms
                rw [ers_map, ers_map, List.map_set, af.em]
              · cases hm'
            · cases hm'
          · cases e
        · cases e
      · cases e
    · cases e
  · cases e
end
end Ev
set_option Elab.async false
set_option linter.all false
set_option maxRecDepth 100000
set_option maxHeartbeats 1000000
/-! Statements: attributes, append, augmented; loops. -/
namespace Ev
open PySem PySem.Spec PyProof.Rows PySem.Calls
open L2 (V HO Hp SqL SqT Same upd upd_same upd_ne Cx PE PT PA PI PG PS PSs Ends It Inv RelV Vals VK Gl TI)

section
variable {K : PySem.W.Frag} {ct : Str → Option Addr} {fx : List Nat} {B B' H H' : Hp} {F : List Cell} {σ σ' : L2.St} {τ : TE0} {pl : Bool} {D : Ends}

/-- a container inside a slot is changed, and takes a tree in that nobody had -/
theorem St.absorb {tx : MA} (h : St K ct B (tx.cells ++ F) σ τ H) {i : Nat} {p : List Nat} {t s s' : MA} (ht : τ[i]? = some (some t)) (hs : t.sub p = some s) (hv : s'.val = s.val)
    (hw : ∀ G, Wf B (s.cells ++ (tx.cells ++ G)) H → Wf B (s'.cells ++ G) H') (ok' : s'.ok K ct B) : St K ct B F σ (τ.set i (some (t.put p s'))) H' := by
  obtain ⟨R, h1, h2⟩ := cellsE_set ht
  obtain ⟨R', k1, k2⟩ := put_cells hs
  refine ⟨?_, h.ok.set fun u e => by cases e; exact ok_put hs (h.ok i t ht) ok', h.rel.keep fun u e => by cases e; exact ⟨t, ht, (put_val hs hv).symm⟩⟩
  have w : Wf B (s.cells ++ (tx.cells ++ (R' ++ (R ++ F)))) H := by
    refine h.wf.perm ((List.Perm.append_right _ (h1.trans (List.Perm.append_right R k1))).trans ?_)
    have : (R' ++ (R ++ (tx.cells ++ F))).Perm (tx.cells ++ (R' ++ (R ++ F))) := by
      have q : ((R' ++ R) ++ tx.cells ++ F).Perm (tx.cells ++ (R' ++ R) ++ F) := List.Perm.append_right _ List.perm_append_comm
      simpa only [List.append_assoc] using q
    simpa only [List.append_assoc] using List.Perm.append_left s.cells this
  refine (hw _ w).perm ?_
  have := (List.Perm.append_right F ((h2 (some (t.put p s'))).trans (List.Perm.append_right R (k2 s' hv)))).symm
  simpa only [List.append_assoc, cellsO] using this
theorem app_w {a : Addr} {ts : List MA} {tx : MA} {v : V} (hv : tx.val = v) : ∀ G, Wf B ((MA.lst a ts).cells ++ (tx.cells ++ G)) H → Wf B ((MA.lst a (ts ++ [tx])).cells ++ G) (upd H a (.lst (ts.map MA.val ++ [v]))) := fun G w => by
  simp only [MA.cells, List.cons_append] at w
  have w2 := Wf.write (o' := .lst (ts.map MA.val ++ [v])) w
  refine w2.perm ?_
  simp only [MA.cells, cellsL_app, MA.cellsL, List.append_nil, List.map_append, List.map_cons, List.map_nil, hv, List.cons_append, List.append_assoc]
  exact List.Perm.refl _
theorem app_ok {a : Addr} {ts : List MA} {tx : MA} (h : (MA.lst a ts).ok K ct B) (hx : tx.ok K ct B) : (MA.lst a (ts ++ [tx])).ok K ct B := by
  unfold MA.ok at h ⊢
  refine oks_iff.mpr fun y hy => ?_
  rcases List.mem_append.mp hy with z | z
  · exact oks_iff.mp h y z
  · cases List.mem_singleton.mp z; exact hx
theorem s_app {i : Nat} {c : SE} (h : TSf K ct fx (sApp i c) D σ H) : L2.tDrop (L2.tBM K "list" L2.rAppend (L2.tVar i) (L2.tCons (TEf K ct c) L2.tNil)) D σ H := by
  obtain ⟨B, F, τ, st, r, e, q⟩ := h
  unfold sApp at e
  split at e
  · rename_i ms0 h0
    obtain ⟨t0, ht0, et0⟩ := erE_slot h0
    obtain ⟨a0, ts0, rfl, _⟩ := t_lst et0
    have hσ := st.rel.at_ i _ ht0
    split at e
    · rename_i x e1 hc
      split at e
      · rename_i ms hm
        split at e
        · rename_i hlen
          cases e
          refine ⟨.ref a0, hσ, .inl ⟨rfl, _, SqL.of (cell_of (p := []) st ht0 rfl (a0, .lst (ts0.map MA.val)) (by simp [MA.cells]))⟩, B, F, τ, st, x, e1, hc, fun v H1 B1 tx τ1 af => ?_⟩
          rw [← af.ee] at hm
          obtain ⟨t1, ht1, et1⟩ := erE_slot hm
          obtain ⟨a, ts, rfl, hts⟩ := t_lst et1
          have ha : a = a0 := by
            have := af.st.rel.at_ i _ ht1
            rw [hσ] at this
            cases this; rfl
          subst ha
          refine ⟨a, ts.map MA.val, v, rfl, rfl, cell_of (p := []) af.st ht1 rfl (a, _) (by simp [MA.cells]), ?_, ?_⟩
          · rw [List.length_map, line_eq]
            rw [← hts, ers_map, List.length_map] at hlen
            exact hlen
          · have s2 := St.absorb (p := []) (s' := .lst a (ts ++ [tx])) af.st ht1 rfl rfl (app_w af.ev) (app_ok (af.st.ok i _ ht1) af.ok)
            refine q σ _ B1 _ ⟨s2, af.sb, ?_, fun _ _ => rfl⟩
            rw [erE_set]
            simp only [MA.put, Option.map_some, MA.er]
            rw [af.ee, ← hts, ers_map, ers_map, List.map_append, ← af.em]
            rfl
        · cases e
      · cases e
    · cases e
  · cases e
theorem s_appK {k : SK} {qp : SP} (h : TSf K ct fx (sAppK k qp) D σ H) : L2.tDrop (L2.tBM K "list" L2.rAppend (TKf K ct k) (L2.tCons (TPf K ct qp) L2.tNil)) D σ H := by
  obtain ⟨B, F, τ, st, r, e, q⟩ := h
  unfold sAppK at e
  split at e
  · rename_i i p hk
    split at e
    · rename_i x hx
      split at e
      · rename_i ms hm
        split at e
        · rename_i hlen
          cases e
          refine ⟨B, F, τ, st, _, hk, fun w hw => ?_⟩
          obtain ⟨t, s, ht, hs, hv⟩ := hw
          rw [at_erE ht hs] at hm
          obtain ⟨a, ts, rfl, hts⟩ := t_lst (Option.some.inj hm)
          have hv2 : V.ref a = w := hv
          subst hv2
          have hcell := cell_of st ht hs (a, .lst (ts.map MA.val)) (by simp [MA.cells])
          refine ⟨.inl ⟨rfl, _, SqL.of hcell⟩, B, F, τ, st, x, hx, fun v rv => ?_⟩
          refine ⟨a, ts.map MA.val, v, rfl, rfl, hcell, ?_, ?_⟩
          · rw [List.length_map, line_eq]
            rw [← hts, ers_map, List.length_map] at hlen
            exact hlen
          · have okx : (MA.d x v).ok K ct B := by unfold MA.ok; exact rv
            have st0 : St K ct B ((MA.d x v).cells ++ F) σ τ H := by simpa [MA.cells] using st
            have s2 := St.absorb (s' := .lst a (ts ++ [.d x v])) st0 ht hs rfl (app_w rfl) (app_ok (ok_sub hs (st.ok i _ ht)) okx)
            refine q σ _ B _ ⟨s2, Same.refl _, ?_, fun _ _ => rfl⟩
            have pe := putAt_erE (s' := .lst a (ts ++ [.d x v])) ht hs
            rw [← pe]
            congr 1
            simp only [MA.er]
            rw [← hts, ers_map, ers_map, List.map_append]
            rfl
        · cases e
      · cases e
    · cases e
  · cases e
theorem put_none : ∀ {ns : List Str} {vs : List V} {f : Str} {y : V}, fIx ns f = none → ns.length = vs.length → L2.putF f y (ns.zip vs) = (ns ++ [f]).zip (vs ++ [y])
  | [], [], f, y, _, _ => rfl
  | n :: ns, v :: vs, f, y, h, hl => by
    unfold fIx at h
    rw [List.findIdx?_cons] at h
    by_cases e : n = f
    · subst e; simp at h
    · have e1 : (n == f) = false := by simpa using e
      rw [e1] at h
      simp only [Bool.false_eq_true, if_false, Option.map_eq_none_iff] at h
      simp only [List.zip_cons_cons, L2.putF, if_neg e, List.cons_append]
      rw [put_none (ns := ns) h (by simpa using hl)]
  | [], _ :: _, _, _, _, hl => by simp at hl
  | _ :: _, [], _, _, _, hl => by simp at hl
theorem put_some : ∀ {ns : List Str} {vs : List V} {f : Str} {y : V} {j : Nat}, fIx ns f = some j → ns.length = vs.length → L2.putF f y (ns.zip vs) = ns.zip (vs.set j y)
  | [], _, f, y, j, h, _ => by simp [fIx] at h
  | n :: ns, [], f, y, j, h, hl => by simp at hl
  | n :: ns, v :: vs, f, y, j, h, hl => by
    unfold fIx at h
    rw [List.findIdx?_cons] at h
    by_cases e : n = f
    · subst e
      simp at h
      subst h
      simp [L2.putF]
    · have e1 : (n == f) = false := by simpa using e
      rw [e1] at h
      simp only [Bool.false_eq_true, if_false, Option.map_eq_some_iff] at h
      obtain ⟨k, hk, rfl⟩ := h
      simp only [List.zip_cons_cons, L2.putF, if_neg e, List.set_cons_succ]
      rw [put_some (ns := ns) hk (by simpa using hl)]
theorem fIx_mem {ns : List Str} {f : Str} {j : Nat} (h : fIx ns f = some j) : j < ns.length ∧ f ∈ ns := by
  unfold fIx at h
  obtain ⟨h1, h2, _⟩ := List.findIdx?_eq_some_iff_getElem.mp h
  have e2 : ns[j] = f := by simpa using h2
  exact ⟨h1, by rw [← e2]; exact List.getElem_mem _⟩
theorem t_obj {t : MA} {c : Str} {ns : List Str} {m : List M} (h : t.er = .obj c ns m) : ∃ C dx a ts, t = .obj c C dx a ns ts ∧ MA.ers ts = m := by
  cases t with
  | d x v => simp [MA.er] at h
  | lst a ts => simp [MA.er] at h
  | obj c' C dx a ns' ts =>
    simp only [MA.er, M.obj.injEq] at h
    obtain ⟨rfl, rfl, h⟩ := h
    exact ⟨C, dx, a, ts, rfl, h⟩
theorem s_fld {fa : Str → Str → Bool} {k : SK} {f : Str} {c : SE} (hfa : ∀ c f C, fa c f = true → ct c = some C → L2.NoAttr K C f) (h : TSf K ct fx (sFld fa k f c) D σ H) : L2.sFld K (TKf K ct k) (TEf K ct c) f D σ H := by
  obtain ⟨B, F, τ, st, r, e, q⟩ := h
  unfold sFld at e
  split at e
  · rename_i x e1 hc
    split at e
    · rename_i i p hk
      split at e
      · rename_i m hm
        split at e
        · rename_i m' hm'
          cases e
          refine ⟨B, F, τ, st, x, e1, hc, fun v H1 B1 tx τ1 af => ?_⟩
          rw [← af.ee] at hk hm
          refine ⟨B1, _, τ1, af.st, _, hk, fun w hw => ?_⟩
          obtain ⟨t, s, ht, hs, hv⟩ := hw
          rw [at_erE ht hs] at hm
          cases hm
          unfold M.setF at hm'
          split at hm'
          · rename_i cn ns ms hms
            obtain ⟨C, dx, a, ts, rfl, hts⟩ := t_obj hms
            have hv2 : V.ref a = w := hv
            subst hv2
            have hok := ok_sub hs (af.st.ok i _ ht)
            unfold MA.ok at hok
            obtain ⟨oc, hl, oks⟩ := hok
            have hcell := cell_of af.st ht hs (a, _) (by simp only [MA.cells]; exact List.mem_cons_self)
            have fin : ∀ (ns' : List Str) (ts' : List MA), m' = .obj cn ns' (MA.ers ts') → L2.NoAttr K C f → L2.putF f v (ns.zip (ts.map MA.val)) = ns'.zip (ts'.map MA.val) → ns'.length = ts'.length → ObjC K ct cn C ns' → MA.oks K ct B1 ts' →
                (∀ G, (MA.cellsL ts ++ (tx.cells ++ G)).Perm (MA.cellsL ts' ++ G) ∨ ∃ Z, (MA.cellsL ts ++ (tx.cells ++ G)).Perm (Z ++ (MA.cellsL ts' ++ G))) →
                ∃ a_1 C dx fs, V.ref a = V.ref a_1 ∧ H1 a_1 = some (.ins C dx fs) ∧ L2.Cls K C ∧ L2.NoAttr K C f ∧ fs.length < 1000 ∧ D.nx σ (upd H1 a_1 (.ins C dx (L2.putF f v fs))) := by
              intro ns' ts' em' na pf hl' oc' oks' pm
              refine ⟨a, C, dx, _, rfl, hcell, oc.cls, na, ?_, ?_⟩
              · rw [List.length_zip, List.length_map]
                have := oc.few
                omega
              · have s2 := St.absorb (s' := .obj cn C dx a ns' ts') af.st ht hs rfl (H' := upd H1 a (.ins C dx (L2.putF f v (ns.zip (ts.map MA.val))))) (fun G w => by
                  simp only [MA.cells, List.cons_append] at w ⊢
                  have w2 := Wf.write (o' := .ins C dx (ns'.zip (ts'.map MA.val))) w
                  rw [pf]
                  rcases pm G with pm | ⟨Z, pm⟩
                  · exact w2.perm (List.Perm.cons _ (List.Perm.cons _ pm))
                  · have w3 := w2.perm (List.Perm.cons _ (List.Perm.cons _ pm))
                    have p4 : ((a, HO.ins C dx (ns'.zip (ts'.map MA.val))) :: (dx, HO.own a) :: (Z ++ (MA.cellsL ts' ++ G))).Perm (Z ++ ((a, HO.ins C dx (ns'.zip (ts'.map MA.val))) :: (dx, HO.own a) :: (MA.cellsL ts' ++ G))) := by
                      refine (List.Perm.cons _ List.perm_middle.symm).trans ?_
                      exact List.perm_middle.symm
                    exact (w3.perm p4).drop) (by unfold MA.ok; exact ⟨oc', hl', oks'⟩)
                refine q σ _ B1 _ ⟨s2, af.sb, ?_, fun _ _ => rfl⟩
                have pe := putAt_erE (s' := .obj cn C dx a ns' ts') ht hs
                rw [← pe, af.ee, em']
                simp only [MA.er]
            split at hm'
            · rename_i j hj
              cases hm'
              obtain ⟨j1, j2⟩ := fIx_mem hj
              have hjt : j < ts.length := by rw [← hl]; exact j1
              obtain ⟨R0, z1, z2⟩ := cellsL_set (List.getElem?_eq_getElem hjt)
              refine fin ns (ts.set j tx) ?_ (oc.na f j2) ?_ (by rw [List.length_set]; exact hl) oc ?_ fun G => .inr ⟨ts[j].cells, ?_⟩
              · rw [← hts, ers_map, ers_map, List.map_set, af.em]
              · rw [put_some hj (by rw [List.length_map]; exact hl), List.map_set, af.ev]
              · refine oks_iff.mpr fun y hy => ?_
                rcases List.mem_or_eq_of_mem_set hy with z | z
                · exact oks_iff.mp oks y z
                · subst z; exact af.ok
              · refine (List.Perm.append_right _ z1).trans ?_
                have z3 := z2 tx
                rw [List.append_assoc]
                refine List.Perm.append_left _ ?_
                have q2 : (R0 ++ tx.cells ++ G).Perm (tx.cells ++ R0 ++ G) := List.Perm.append_right _ List.perm_append_comm
                rw [List.append_assoc] at q2
                exact q2.trans (List.Perm.append_right _ z3.symm)
            · rename_i hj
              split at hm'
              · rename_i hcnd
                cases hm'
                have na := hfa cn f C hcnd.2 oc.at_
                refine fin (ns ++ [f]) (ts ++ [tx]) ?_ na ?_ (by simp [hl]) ⟨oc.at_, oc.cls, ?_, by simp; omega⟩ ?_ fun G => .inl ?_
                · rw [← hts, ers_map, ers_map, List.map_append, ← af.em]; rfl
                · rw [put_none hj (by rw [List.length_map]; exact hl), List.map_append, ← af.ev]; rfl
                · intro g hg
                  rcases List.mem_append.mp hg with z | z
                  · exact oc.na g z
                  · cases List.mem_singleton.mp z; exact na
                · refine oks_iff.mpr fun y hy => ?_
                  rcases List.mem_append.mp hy with z | z
                  · exact oks_iff.mp oks y z
                  · cases List.mem_singleton.mp z; exact af.ok
                · simp only [cellsL_app, MA.cellsL, List.append_nil, List.append_assoc]
                  exact List.Perm.refl _
              · cases hm'
          · cases hm'
        · cases e
      · cases e
    · cases e
  · cases e
theorem s_aug {i : Nat} {op : Operator} {f : Int → Int → Int} {c : SE} (hf : ∀ a b, binI op a b = some (f a b)) (hi : i ∉ fx) (h : TSf K ct fx (sAug i op c) D σ H) : L2.tAug i (TEf K ct c) (L2.ipI f) D σ H := by
  obtain ⟨B, F, τ, st, r, e, q⟩ := h
  unfold sAug at e
  split at e
  · rename_i a ha
    obtain ⟨t, ht, et⟩ := erE_slot ha
    have hσ := st.rel.at_ i t ht
    have hv : t.val = .int a := by
      have o := st.ok i t ht
      cases t with
      | d x v =>
        simp only [MA.er, M.d.injEq] at et
        subst et
        unfold MA.ok RepD at o
        exact o
      | lst a ts => simp [MA.er] at et
      | obj c C dx a ns ts => simp [MA.er] at et
    split at e
    · rename_i b e1 hb
      split at e
      · rename_i z hz
        cases e
        refine ⟨t.val, hσ, e_one (Q := fun y H1 => L2.ipI f t.val y H1 fun z H2 => D.nx (σ.set i (some z)) H2) st hb fun v H1 B1 τ1 st1 sb1 ee rv => ?_⟩
        simp only [M.fz] at rv
        unfold RepD at rv
        refine ⟨a, b, hv, rv, ?_⟩
        rw [hf] at hz
        cases hz
        refine q _ H1 B1 _ ⟨st1.setd (x := .int (f a b)) rep_int, sb1, by rw [erE_set, ee]; rfl, fun j hj => List.getElem?_set_ne (fun z => by subst z; exact hi hj)⟩
      · cases e
    · cases e
  · cases e

/-! ### loops -/
theorem s_for {it : SI} {g : Tg} {b : SS} (hg : ∀ j ∈ g.ns, j ∉ fx) (h : TSf K ct fx (sFor it g b) D σ H) : L2.tFor (TIf K ct pl it) (TGf K ct pl g) (TSf K ct fx b) D σ H := by
  obtain ⟨B, F, τ, st, r, e, q⟩ := h
  unfold sFor at e
  split at e
  · rename_i xs e1 hi
    refine ⟨B, F, τ, st, xs, e1, hi, fun J H1 B1 τ1 af w => ?_⟩
    refine L2.for_it (Y := J.yld) (n := xs.length) (G := fun H => Same B1 H) ⟨fun i H hi sb => w.goes i H hi sb, fun H sb => w.stops H sb, fun i H x H' _ _ y => y⟩
      (fun i σ' H' => ∃ B' τ', St K ct B' F σ' τ' H' ∧ Same B1 B' ∧ (∀ j ∈ fx, σ'[j]? = σ[j]?) ∧ ∃ r, forL g b (xs.drop i) (erE τ') = some r ∧ EndsD K ct fx B' F σ' r D) ?_ ?_ ?_ ?_
    · exact ⟨B1, τ1, af.st, Same.refl _, fun _ _ => rfl, r, by rw [af.ee]; simpa using e, q.mono af.sb fun _ _ => rfl⟩
    · rintro i σ' H' hi ⟨B', τ', s, sb, _⟩
      exact sb.trans s.wf.sub
    · rintro i v σ' H2 H3 hi ⟨B', τ', s2, sb, kp, r, hr, qr⟩ y
      obtain ⟨B2, w2, sb2, x, hx, ry⟩ := w.yields i H2 v H3 _ B' hi sb s2.wf y
      have s3 : St K ct B2 F σ' τ' H3 := ⟨w2, s2.ok.mono sb2, s2.rel⟩
      have hdrop : xs.drop i = x :: xs.drop (i + 1) := by
        rw [List.drop_eq_getElem_cons hi]
        rw [List.getElem?_eq_getElem hi] at hx
        cases hx; rfl
      rw [hdrop] at hr
      simp only [forL] at hr
      split at hr
      · cases hr
      · rename_i e3 hset
        refine ⟨B2, F, τ', s3, x, e3, ry, hset, fun σ4 τ4 s4 ee4 hl4 hk4 => ?_⟩
        have k4 : ∀ j ∈ fx, σ4[j]? = σ'[j]? := fun j hj => hk4 j fun z => hg j z hj
        split at hr
        · rename_i e5 hb
          refine ⟨B2, F, τ4, s4, (.nx e5), by rw [ee4]; exact hb, fun σ5 H5 B5 τ5 a5 => ?_⟩
          have k5 : ∀ j ∈ fx, σ5[j]? = σ'[j]? := fun j hj => (a5.kp j hj).trans (k4 j hj)
          exact ⟨B5, τ5, a5.st, (sb.trans sb2).trans a5.sb, fun j hj => (k5 j hj).trans (kp j hj), r, by rw [a5.ee]; exact hr, qr.mono (sb2.trans a5.sb) k5⟩
        · rename_i e5 hb
          refine ⟨B2, F, τ4, s4, (.ct e5), by rw [ee4]; exact hb, fun σ5 H5 B5 τ5 a5 => ?_⟩
          have k5 : ∀ j ∈ fx, σ5[j]? = σ'[j]? := fun j hj => (a5.kp j hj).trans (k4 j hj)
          exact ⟨B5, τ5, a5.st, (sb.trans sb2).trans a5.sb, fun j hj => (k5 j hj).trans (kp j hj), r, by rw [a5.ee]; exact hr, qr.mono (sb2.trans a5.sb) k5⟩
        · rename_i e5 hb
          cases hr
          refine ⟨B2, F, τ4, s4, (.bk e5), by rw [ee4]; exact hb, fun σ5 H5 B5 τ5 a5 => ?_⟩
          exact qr σ5 H5 B5 τ5 ⟨a5.st, sb2.trans a5.sb, a5.ee, fun j hj => (a5.kp j hj).trans (k4 j hj)⟩
        · rename_i m e5 hb
          cases hr
          refine ⟨B2, F, τ4, s4, (.rt m e5), by rw [ee4]; exact hb, fun v5 σ5 H5 B5 t5 τ5 a5 => ?_⟩
          exact qr v5 σ5 H5 B5 t5 τ5 ⟨Aft.of sb2 a5.a, fun j hj => (a5.kp j hj).trans (k4 j hj)⟩
        · cases hr
    · rintro σ' H2 ⟨B', τ', s2, sb, kp, r, hr, qr⟩
      rw [List.drop_length] at hr
      simp only [forL, Option.some.injEq] at hr
      subst hr
      exact qr σ' H2 B' τ' ⟨s2, Same.refl _, rfl, fun _ _ => rfl⟩
  · cases e
theorem s_while {N : Nat} {t : ST} {b : SS} (h : TSf K ct fx (sWhile N t b) D σ H) : L2.tWhile (TTf K ct t) (TSf K ct fx b) D σ H := by
  obtain ⟨B, F, τ, st, r, e, q⟩ := h
  refine ⟨fun m σ' H' => ∃ B' τ', St K ct B' F σ' τ' H' ∧ Same B B' ∧ (∀ j ∈ fx, σ'[j]? = σ[j]?) ∧ ∃ r, whileL t b m (erE τ') = some r ∧ EndsD K ct fx B' F σ' r D, ⟨N, B, τ, st, Same.refl _, fun _ _ => rfl, r, e, q⟩, ?_⟩
  rintro m σ' H' ⟨B', τ', s2, sb, kp, r, hr, qr⟩
  cases m with
  | zero => cases hr
  | succ m =>
    simp only [whileL] at hr
    split at hr
    · cases hr
    · rename_i e1 ht
      cases hr
      refine ⟨B', F, τ', s2, false, e1, ht, fun H3 B3 τ3 a3 => ?_⟩
      simp only [Bool.false_eq_true, if_false]
      exact qr σ' H3 B3 τ3 ⟨a3.st, a3.sb, a3.ee, fun _ _ => rfl⟩
    · rename_i e1 ht
      refine ⟨B', F, τ', s2, true, e1, ht, fun H3 B3 τ3 a3 => ?_⟩
      simp only [if_true]
      refine ⟨fun σ5 H5 => ∃ B5 τ5, St K ct B5 F σ5 τ5 H5 ∧ Same B B5 ∧ (∀ j ∈ fx, σ5[j]? = σ[j]?) ∧ ∃ r, whileL t b m (erE τ5) = some r ∧ EndsD K ct fx B5 F σ5 r D, fun σ5 H5 z => ⟨m, Nat.lt_succ_self m, z⟩, ?_⟩
      split at hr
      · rename_i e5 hb
        refine ⟨B3, F, τ3, a3.st, (.nx e5), by rw [a3.ee]; exact hb, fun σ5 H5 B5 τ5 a5 => ?_⟩
        exact ⟨B5, τ5, a5.st, (sb.trans a3.sb).trans a5.sb, fun j hj => (a5.kp j hj).trans (kp j hj), r, by rw [a5.ee]; exact hr, qr.mono (a3.sb.trans a5.sb) fun j hj => a5.kp j hj⟩
      · rename_i e5 hb
        refine ⟨B3, F, τ3, a3.st, (.ct e5), by rw [a3.ee]; exact hb, fun σ5 H5 B5 τ5 a5 => ?_⟩
        exact ⟨B5, τ5, a5.st, (sb.trans a3.sb).trans a5.sb, fun j hj => (a5.kp j hj).trans (kp j hj), r, by rw [a5.ee]; exact hr, qr.mono (a3.sb.trans a5.sb) fun j hj => a5.kp j hj⟩
      · rename_i e5 hb
        cases hr
        refine ⟨B3, F, τ3, a3.st, (.bk e5), by rw [a3.ee]; exact hb, fun σ5 H5 B5 τ5 a5 => ?_⟩
        exact qr σ5 H5 B5 τ5 ⟨a5.st, a3.sb.trans a5.sb, a5.ee, fun j hj => a5.kp j hj⟩
      · rename_i mm e5 hb
        cases hr
        refine ⟨B3, F, τ3, a3.st, (.rt mm e5), by rw [a3.ee]; exact hb, fun v5 σ5 H5 B5 t5 τ5 a5 => ?_⟩
        exact qr v5 σ5 H5 B5 t5 τ5 ⟨Aft.of a3.sb a5.a, fun j hj => a5.kp j hj⟩
      · cases hr
end
end Ev
set_option Elab.async false
set_option linter.all false
set_option maxRecDepth 100000
set_option maxHeartbeats 1000000
/-! Calls of the program's own. -/
namespace Ev
open PySem PySem.Spec PyProof.Rows PySem.Calls
open L2 (V HO Hp SqL SqT Same upd upd_same upd_ne Cx PE PT PA PI PG PS PSs Ends It Inv RelV Vals VK Gl TI XK Sp CXT FnOk)

inductive AMA where
  | m (t : MA) | lend (i : Nat)
def AMA.er : AMA → AV
  | .m t => .m t.er
  | .lend i => .lend i
def AMA.cells : AMA → List Cell
  | .m t => t.cells
  | .lend _ => []
section
variable (K : PySem.W.Frag) (ct : Str → Option Addr)
def AMA.ok (B : Hp) (σ : L2.St) : AMA → V → Prop
  | .m t, v => t.ok K ct B ∧ t.val = v
  | .lend i, v => σ[i]? = some (some v)
def VRel (B : Hp) (σ : L2.St) : List AMA → List V → Prop
  | [], vs => vs = []
  | a :: as, vs => ∃ v r, vs = v :: r ∧ a.ok K ct B σ v ∧ VRel B σ as r
structure AftV (B : Hp) (F : List Cell) (σ : L2.St) (avs : List AV) (e : Env) (vs : List V) (H' B' : Hp) (as : List AMA) (τ' : TE0) : Prop where
  st : St K ct B' (as.flatMap AMA.cells ++ F) σ τ' H'
  ok : VRel K ct B' σ as vs
  sb : Same B B'
  ee : erE τ' = e
  em : as.map AMA.er = avs
/-- one argument -/
def TVf (a : SA) : L2.TE := fun σ H Q => ∃ B F τ, St K ct B F σ τ H ∧ ∃ av e', a (erE τ) = some (av, e') ∧ ∀ v H' B' am τ', AftV K ct B F σ [av] e' [v] H' B' [am] τ' → Q v H'
def TVs (as : List SA) : L2.TA := fun σ H Q => ∃ B F τ, St K ct B F σ τ H ∧ ∃ avs e', evA as (erE τ) = some (avs, e') ∧ ∀ vs H' B' ams τ', AftV K ct B F σ avs e' vs H' B' ams τ' → Q vs H'
/-- what a def promises: r what it answers, mu what it changes of what it is given -/
def spR (r : Fn) (mu : List Nat) (np : Nat) : Sp := fun vs H Q _ => vs.length = np ∧ ∃ (B : Hp) (F : List Cell) (ts : List MA), Wf B (MA.cellsL ts ++ F) H ∧ MA.oks K ct B ts ∧ ts.map MA.val = vs ∧ ∃ m os, r (MA.ers ts) = some (m, os) ∧
  ∀ (v : V) (H' B' : Hp) (t : MA) (us : List MA), Wf B' (t.cells ++ (MA.cellsL us ++ F)) H' → Same B B' → t.ok K ct B' → MA.oks K ct B' us → t.er = m → MA.ers us = os → t.val = v → us.map (fun u : MA => some u.val) = mu.map (fun j : Nat => vs[j]?) → Q v H'
end
section
variable {K : PySem.W.Frag} {ct : Str → Option Addr} {fx : List Nat} {B B' H H' : Hp} {F : List Cell} {σ σ' : L2.St} {τ : TE0}

theorem AMA.ok.mono {a : AMA} {v : V} (h : a.ok K ct B σ v) (sb : Same B B') : a.ok K ct B' σ v := by
  cases a with
  | m t => exact ⟨h.1.mono sb, h.2⟩
  | lend i => exact h
theorem VRel.mono : ∀ {as : List AMA} {vs : List V}, VRel K ct B σ as vs → Same B B' → VRel K ct B' σ as vs
  | [], _, h, _ => by unfold VRel at *; exact h
  | a :: as, vs, h, sb => by
    unfold VRel at *
    obtain ⟨v, r, e, h1, h2⟩ := h
    exact ⟨v, r, e, h1.mono sb, h2.mono sb⟩
theorem v_val {c : SE} {Q : VK} (h : TVf K ct (aV c) σ H Q) : TEf K ct c σ H Q := by
  obtain ⟨B, F, τ, st, av, e', e, q⟩ := h
  unfold aV at e
  split at e
  · rename_i m e1 hc
    cases e
    exact ⟨B, F, τ, st, m, _, hc, fun v H' B' t τ' af => q v H' B' (.m t) τ' ⟨by simpa [AMA.cells] using af.st, by unfold VRel; exact ⟨v, [], rfl, ⟨af.ok, af.ev⟩, by unfold VRel; rfl⟩, af.sb, af.ee, by simp [AMA.er, af.em]⟩⟩
  · cases e
theorem v_lend {i : Nat} {Q : VK} (h : TVf K ct (aL i) σ H Q) : L2.tVar i σ H Q := by
  obtain ⟨B, F, τ, st, av, e', e, q⟩ := h
  unfold aL at e
  cases hs : (erE τ).slot i with
  | none => rw [hs] at e; cases e
  | some m =>
    rw [hs] at e
    obtain ⟨t, ht, het⟩ := erE_slot hs
    have hσ := st.rel.at_ i t ht
    refine ⟨t.val, hσ, ?_⟩
    have hl : av = .lend i → e' = erE τ → Q t.val H := fun z1 z2 => q t.val H B (.lend i) τ ⟨by simpa [AMA.cells] using st, by unfold VRel; exact ⟨_, [], rfl, hσ, by unfold VRel; rfl⟩, Same.refl _, z2.symm, by simp [AMA.er, z1]⟩
    cases m with
    | d x =>
      cases e
      cases t with
      | d y v =>
        simp only [MA.er, M.d.injEq] at het
        subst het
        have ok := st.ok i _ ht
        exact q _ H B (.m (.d y v)) τ ⟨by simpa [AMA.cells, MA.cells] using st, by unfold VRel; exact ⟨v, [], rfl, ⟨ok, rfl⟩, by unfold VRel; rfl⟩, Same.refl _, rfl, by simp [AMA.er, MA.er]⟩
      | lst a ts => simp [MA.er] at het
      | obj c C dx a ns ts => simp [MA.er] at het
    | lst ms => cases e; exact hl rfl rfl
    | obj c ns ms => cases e; exact hl rfl rfl
theorem vs_nil {Q : List V → Hp → Prop} (h : TVs K ct [] σ H Q) : L2.tNil σ H Q := by
  obtain ⟨B, F, τ, st, avs, e', e, q⟩ := h
  simp only [evA, Option.some.injEq, Prod.mk.injEq] at e
  obtain ⟨rfl, rfl⟩ := e
  exact q [] H B [] τ ⟨by simpa using st, by unfold VRel; rfl, Same.refl _, rfl, rfl⟩
theorem vs_cons {a : SA} {as : List SA} {Q : List V → Hp → Prop} (h : TVs K ct (a :: as) σ H Q) : L2.tCons (TVf K ct a) (TVs K ct as) σ H Q := by
  obtain ⟨B, F, τ, st, avs, e', e, q⟩ := h
  unfold evA at e
  split at e
  · rename_i av e1 ha
    split at e
    · rename_i avr e2 hr
      cases e
      refine ⟨B, F, τ, st, av, e1, ha, fun v H1 B1 am τ1 a1 => ?_⟩
      have st1 := a1.st
      simp only [List.flatMap_cons, List.flatMap_nil, List.append_nil] at st1
      refine ⟨B1, am.cells ++ F, τ1, st1, avr, _, by rw [a1.ee]; exact hr, fun vs H2 B2 ams τ2 a2 => ?_⟩
      refine q _ H2 B2 (am :: ams) τ2 ⟨?_, ?_, a1.sb.trans a2.sb, a2.ee, ?_⟩
      · refine ⟨a2.st.wf.perm (List.Perm.append_left _ ?_), a2.st.ok, a2.st.rel⟩
        simp only [List.flatMap_cons]
        rw [← List.append_assoc]
        exact List.Perm.append_right _ List.perm_append_comm
      · unfold VRel
        have o1 := a1.ok
        unfold VRel at o1
        obtain ⟨v', r', z1, z2, _⟩ := o1
        cases z1
        exact ⟨v, vs, rfl, z2.mono a2.sb, a2.ok⟩
      · have z := a1.em
        simp only [List.map_cons, List.map_nil, List.cons.injEq, and_true] at z
        simp only [List.map_cons, z, a2.em]
    · cases e
  · cases e
theorem St.takeout {i : Nat} {t : MA} (st : St K ct B F σ τ H) (ht : τ[i]? = some (some t)) : St K ct B (t.cells ++ F) σ (τ.set i none) H := by
  obtain ⟨R, h1, h2⟩ := cellsE_set ht
  have h3 := h2 none
  refine ⟨st.wf.perm ?_, st.ok.set fun u z => (nomatch z), st.rel.keep fun u z => (nomatch z)⟩
  simp only [cellsO, List.nil_append] at h1 h3
  refine (List.Perm.append_right F h1).trans ?_
  refine List.Perm.trans ?_ (List.Perm.append_right _ h3.symm)
  rw [← List.append_assoc]
  exact List.Perm.append_right _ List.perm_append_comm
theorem St.framed {F F' : List Cell} (st : St K ct B F σ τ H) (p : F.Perm F') : St K ct B F' σ τ H := ⟨st.wf.perm (List.Perm.append_left _ p), st.ok, st.rel⟩
theorem take_args : ∀ {as : List AMA} {vs : List V} {τ : TE0} {F : List Cell} {ms : List M} {e2 : Env}, St K ct B (as.flatMap AMA.cells ++ F) σ τ H → VRel K ct B σ as vs → takeA (as.map AMA.er) (erE τ) = some (ms, e2) →
    ∃ ts τ2, MA.ers ts = ms ∧ erE τ2 = e2 ∧ St K ct B (MA.cellsL ts ++ F) σ τ2 H ∧ MA.oks K ct B ts ∧ ts.map MA.val = vs
  | [], vs, τ, F, ms, e2, st, r, e => by
    unfold VRel at r
    subst r
    simp only [List.map_nil, takeA, Option.some.injEq, Prod.mk.injEq] at e
    obtain ⟨rfl, rfl⟩ := e
    exact ⟨[], τ, by simp [MA.ers], rfl, by simpa [MA.cellsL] using st, by unfold MA.oks; trivial, rfl⟩
  | .m t :: as, vs, τ, F, ms, e2, st, r, e => by
    unfold VRel at r
    obtain ⟨v, vr, rfl, ⟨o1, o2⟩, hr⟩ := r
    simp only [List.map_cons, AMA.er, takeA] at e
    split at e
    · rename_i mr e3 hm
      cases e
      have st1 : St K ct B (as.flatMap AMA.cells ++ (t.cells ++ F)) σ τ H := by
        refine st.framed ?_
        simp only [List.flatMap_cons, AMA.cells]
        rw [← List.append_assoc]
        exact List.Perm.append_right _ List.perm_append_comm
      obtain ⟨ts, τ2, h1, h2, h3, h4, h5⟩ := take_args st1 hr hm
      refine ⟨t :: ts, τ2, by simp [MA.ers, h1], h2, ?_, by unfold MA.oks; exact ⟨o1, h4⟩, by simp [o2, h5]⟩
      refine h3.framed ?_
      simp only [MA.cellsL]
      rw [← List.append_assoc]
      exact List.Perm.append_right _ List.perm_append_comm
    · cases e
  | .lend i :: as, vs, τ, F, ms, e2, st, r, e => by
    unfold VRel at r
    obtain ⟨v, vr, rfl, o, hr⟩ := r
    simp only [List.map_cons, AMA.er, takeA] at e
    split at e
    · rename_i m hm
      split at e
      · rename_i mr e3 hmr
        cases e
        obtain ⟨t, ht, rfl⟩ := erE_slot hm
        have st1 := St.takeout (i := i) st ht
        have st2 : St K ct B (as.flatMap AMA.cells ++ (t.cells ++ F)) σ (τ.set i none) H := by
          refine st1.framed ?_
          simp only [List.flatMap_cons, AMA.cells, List.nil_append]
          rw [← List.append_assoc, ← List.append_assoc]
          exact List.Perm.append_right _ List.perm_append_comm
        have hmr2 : takeA (as.map AMA.er) (erE (τ.set i none)) = some (mr, e2) := by rw [erE_set]; exact hmr
        obtain ⟨ts, τ2, h1, h2, h3, h4, h5⟩ := take_args st2 hr hmr2
        refine ⟨t :: ts, τ2, by simp [MA.ers, h1], h2, ?_, by unfold MA.oks; exact ⟨st.ok i t ht, h4⟩, ?_⟩
        · refine h3.framed ?_
          simp only [MA.cellsL]
          rw [← List.append_assoc]
          exact List.Perm.append_right _ List.perm_append_comm
        · have z := st.rel.at_ i t ht
          have o' : σ[i]? = some (some v) := o
          rw [o'] at z
          simp only [List.map_cons, h5]
          rw [← Option.some.inj (Option.some.inj z)]
      · cases e
    · cases e
/-- a tree comes (back) to its slot -/
theorem St.putin {u : MA} {i : Nat} (st : St K ct B (u.cells ++ F) σ τ H) (ok : u.ok K ct B) (hσ : σ[i]? = some (some u.val)) : St K ct B F σ (τ.set i (some u)) H := by
  have s := St.sett (i := i) st ok
  rw [set_same hσ] at s
  exact s
theorem vrel_get : ∀ {as : List AMA} {vs : List V} {j : Nat} {i : Nat}, VRel K ct B σ as vs → as[j]? = some (.lend i) → ∃ v, vs[j]? = some v ∧ σ[i]? = some (some v)
  | [], _, _, _, _, e => by simp at e
  | a :: as, vs, 0, i, r, e => by
    unfold VRel at r
    obtain ⟨v, vr, rfl, o, hr⟩ := r
    simp at e
    subst e
    exact ⟨v, rfl, o⟩
  | a :: as, vs, j + 1, i, r, e => by
    unfold VRel at r
    obtain ⟨v, vr, rfl, o, hr⟩ := r
    obtain ⟨w, h1, h2⟩ := vrel_get (j := j) hr (by simpa using e)
    exact ⟨w, by simpa using h1, h2⟩
theorem back_args {as : List AMA} {vs : List V} {B0 : Hp} (r : VRel K ct B0 σ as vs) : ∀ {mu : List Nat} {us : List MA} {τ : TE0} {F : List Cell} {xs : List V}, (∀ (j i : Nat), as[j]? = some (AMA.lend i) → xs[j]? = vs[j]?) → St K ct B (MA.cellsL us ++ F) σ τ H → MA.oks K ct B us → us.map (fun u : MA => some u.val) = mu.map (fun j : Nat => xs[j]?) →
    ∃ τ2, St K ct B F σ τ2 H ∧ erE τ2 = backA (as.map AMA.er) mu (MA.ers us) (erE τ)
  | [], us, τ, F, xs, hx, st, ok, e => by
    have : us = [] := by simpa using e
    subst this
    exact ⟨τ, by simpa [MA.cellsL] using st, by simp [backA]⟩
  | j :: mu, [], τ, F, xs, hx, st, ok, e => by simp at e
  | j :: mu, u :: us, τ, F, xs, hx, st, ok, e => by
    simp only [List.map_cons, List.cons.injEq] at e
    obtain ⟨e1, e2⟩ := e
    unfold MA.oks at ok
    have st1 : St K ct B (u.cells ++ (MA.cellsL us ++ F)) σ τ H := by simpa [MA.cellsL] using st
    have drop : St K ct B (MA.cellsL us ++ F) σ τ H := ⟨st1.front.drop, st1.ok, st1.rel⟩
    simp only [MA.ers, backA, List.getElem?_map]
    cases ha : as[j]? with
    | none => exact back_args r hx drop ok.2 e2
    | some a =>
      cases a with
      | m t => exact back_args r hx drop ok.2 e2
      | lend i =>
        obtain ⟨v, h1, h2⟩ := vrel_get r ha
        have e3 : u.val = v := by
          rw [hx j i ha, h1] at e1
          exact Option.some.inj e1
        have st2 := St.putin (i := i) st1 ok.1 (by rw [e3]; exact h2)
        obtain ⟨τ2, q1, q2⟩ := back_args (mu := mu) r hx st2 ok.2 e2
        refine ⟨τ2, q1, ?_⟩
        rw [q2, erE_set]
        rfl
theorem ints_oks : ∀ {dn : List Int}, MA.oks K ct B (dn.map fun i => .d (.int i) (.int i)) ∧ MA.cellsL (dn.map fun i => MA.d (.int i) (.int i)) = [] ∧ MA.ers (dn.map fun i => MA.d (.int i) (.int i)) = dn.map fun i => M.d (.int i)
  | [] => by simp [MA.cellsL, MA.ers]; unfold MA.oks; trivial
  | i :: r => by
    obtain ⟨h1, h2, h3⟩ := ints_oks (dn := r)
    simp only [List.map_cons, MA.cellsL, MA.ers, MA.cells, MA.er, h2, h3]
    unfold MA.oks MA.ok
    exact ⟨⟨rep_int, h1⟩, by simp⟩
theorem oks_app {ts us : List MA} (h : MA.oks K ct B ts) (g : MA.oks K ct B us) : MA.oks K ct B (ts ++ us) := oks_iff.mpr fun y hy => (List.mem_append.mp hy).elim (oks_iff.mp h y) (oks_iff.mp g y)
/-- from the arguments to the promise and back -/
theorem call_core {r : Fn} {mu : List Nat} {dn : List Int} {avs : List AV} {ms : List M} {m : M} {os : List M} {e2 : Env} {as : List AMA} {vs : List V} {B0 : Hp} {F : List Cell} {τ1 : TE0} {np : Nat} {Q : VK} {E : XK} (hnp : vs.length + dn.length = np)
    (st : St K ct B (as.flatMap AMA.cells ++ F) σ τ1 H) (vr : VRel K ct B σ as vs) (sb : Same B0 B) (em : as.map AMA.er = avs)
    (ht : takeA avs (erE τ1) = some (ms, e2)) (hr : r (ms ++ dn.map fun i => .d (.int i)) = some (m, os))
    (q : ∀ v H' B' t τ', Aft K ct B0 F σ m (backA avs mu os e2) v H' B' t τ' → Q v H') : spR K ct r mu np (vs ++ dn.map V.int) H Q E := by
  subst em
  obtain ⟨ts, τ2, h1, h2, h3, h4, h5⟩ := take_args st vr ht
  obtain ⟨d1, d2, d3⟩ := ints_oks (K := K) (ct := ct) (B := B) (dn := dn)
  refine ⟨by simp [← hnp], B, cellsE τ2 ++ F, ts ++ dn.map fun i => .d (.int i) (.int i), ?_, oks_app h4 d1, ?_, m, os, ?_, ?_⟩
  · rw [cellsL_app, d2, List.append_nil]
    exact h3.front
  · rw [List.map_append, h5, List.map_map]; rfl
  · rw [ers_map, List.map_append, ← ers_map, ← ers_map, h1, d3]; exact hr
  · intro v H' B' t us w sb' ok oks em' eo ev eu
    have s4 : St K ct B' (MA.cellsL us ++ (t.cells ++ F)) σ τ2 H' := by
      refine ⟨w.perm ?_, h3.ok.mono sb', h3.rel⟩
      have p : (t.cells ++ (MA.cellsL us ++ (cellsE τ2 ++ F))).Perm (cellsE τ2 ++ (MA.cellsL us ++ (t.cells ++ F))) := by
        have q1 : (t.cells ++ MA.cellsL us ++ cellsE τ2 ++ F).Perm (cellsE τ2 ++ (t.cells ++ MA.cellsL us) ++ F) := List.Perm.append_right _ List.perm_append_comm
        have q2 : (cellsE τ2 ++ (t.cells ++ MA.cellsL us) ++ F).Perm (cellsE τ2 ++ (MA.cellsL us ++ t.cells) ++ F) := List.Perm.append_right _ (List.Perm.append_left _ List.perm_append_comm)
        simpa only [List.append_assoc] using q1.trans q2
      exact p
    obtain ⟨τ5, s5, e5⟩ := back_args (mu := mu) (xs := vs ++ dn.map V.int) (vr.mono sb') (fun j i hj => by
      obtain ⟨v', z, _⟩ := vrel_get vr hj
      rw [List.getElem?_append_left (lt_of_some z)]) s4 oks eu
    exact q v H' B' t τ5 ⟨s5, ok, sb.trans sb', by rw [e5, h2, eo], em', ev⟩
theorem e_call {r : Fn} {mu : List Nat} {dn : List Int} {as : List SA} {np : Nat} {E : XK} {Q : VK} (hnp : as.length + dn.length = np) (h : TEf K ct (cCall r mu dn as) σ H Q) : L2.tCall (spR K ct r mu np) (dn.map V.int) E (TVs K ct as) σ H Q := by
  obtain ⟨B, F, τ, st, m, e', e, q⟩ := h
  unfold cCall at e
  split at e
  · cases e
  · rename_i avs e1 ha
    split at e
    · cases e
    · rename_i ms e2 ht
      split at e
      · rename_i m' os hr
        cases e
        refine ⟨B, F, τ, st, avs, e1, ha, fun vs H1 B1 ams τ1 a1 => ?_⟩
        have len1 : ∀ {as : List SA} {e e' : Env} {avs : List AV}, evA as e = some (avs, e') → avs.length = as.length := by
          intro as
          induction as with
          | nil => intro e e' avs h; simp only [evA, Option.some.injEq, Prod.mk.injEq] at h; rw [← h.1]; rfl
          | cons a as ih =>
            intro e e' avs h
            unfold evA at h
            split at h
            · split at h
              · rename_i h2
                cases h
                simp [ih h2]
              · cases h
            · cases h
        have len2 : ∀ {ams : List AMA} {vs : List V}, VRel K ct B1 σ ams vs → vs.length = ams.length := by
          intro ams
          induction ams with
          | nil => intro vs h; unfold VRel at h; subst h; rfl
          | cons a as ih => intro vs h; unfold VRel at h; obtain ⟨v, r, rfl, _, h2⟩ := h; simp [ih h2]
        have l1 := len1 ha
        have l2 := len2 a1.ok
        have l3 : avs.length = ams.length := by rw [← a1.em, List.length_map]
        exact call_core (by omega) a1.st a1.ok a1.sb a1.em (by rw [a1.ee]; exact ht) hr q
      · cases e
end
end Ev
set_option Elab.async false
set_option linter.all false
set_option maxRecDepth 100000
set_option maxHeartbeats 1000000
/-! Methods, new objects; a def keeps its promise. -/
namespace Ev
open PySem PySem.Spec PyProof.Rows PySem.Calls
open L2 (V HO Hp SqL SqT Same upd upd_same upd_ne Cx PE PT PA PI PG PS PSs Ends It Inv RelV Vals VK Gl TI XK Sp CXT FnOk Room Binds Passes Meth Cls)

section
variable {K : PySem.W.Frag} {ct : Str → Option Addr} {fx : List Nat} {B B' H H' : Hp} {F : List Cell} {σ σ' : L2.St} {τ : TE0}

theorem look_none : ∀ {ns : List Str} {vs : List V} {f : Str}, fIx ns f = none → (ns.zip vs).lookup f = none
  | [], vs, f, _ => rfl
  | n :: ns, [], f, _ => rfl
  | n :: ns, v :: vs, f, h => by
    unfold fIx at h
    rw [List.findIdx?_cons] at h
    by_cases e : n = f
    · subst e; simp at h
    · have e1 : (n == f) = false := by simpa using e
      rw [e1] at h
      simp only [Bool.false_eq_true, if_false, Option.map_eq_none_iff] at h
      rw [List.zip_cons_cons, List.lookup_cons]
      have e2 : (f == n) = false := by simpa using fun z => e z.symm
      rw [e2]
      exact look_none (ns := ns) h
/-- an object by its tree -/
theorem obj_at {t : MA} {f c : Str} (ok : t.ok K ct B) (sb : Same B H) (hc : ∀ x ∈ t.cells, H x.1 = some x.2) (e : t.er.cls f = some c) :
    ∃ C a dx fs, t.val = .ref a ∧ H a = some (.ins C dx fs) ∧ ct c = some C ∧ Cls K C ∧ fs.lookup f = none := by
  cases t with
  | d x v =>
    unfold MA.ok at ok
    simp only [MA.er] at e
    unfold M.cls at e
    split at e
    · rename_i c' ns xs hx
      cases hx
      split at e
      · rename_i hn
        cases e
        unfold RepD at ok
        obtain ⟨a, C, dx, vs, rfl, oc, hB, _, _⟩ := ok
        exact ⟨C, a, dx, _, rfl, sb _ _ hB, oc.at_, oc.cls, look_none hn⟩
      · cases e
    · rename_i hx; cases hx
    · cases e
  | lst a ts => simp [MA.er, M.cls] at e
  | obj c' C dx a ns ts =>
    unfold MA.ok at ok
    simp only [MA.er, M.cls] at e
    split at e
    · rename_i hn
      cases e
      exact ⟨C, a, dx, _, rfl, hc (a, .ins C dx (ns.zip (ts.map MA.val))) (by simp [MA.cells]), ok.1.at_, ok.1.cls, look_none hn⟩
    · cases e
end

section
variable {X : Cx}
/-- a method of the name m, by the class -/
def Cand (X : Cx) (CX : CXT) (m : Str) (C : Addr) (sp : Sp) (dvs : List V) : Prop :=
  ∃ k f fd ps ds, Meth X.K C m f ∧ FnOk X.prog X.w X.K X.mg X.base CX k f fd ps sp ∧ Room k X.A ∧ Binds X.K fd ps ds ∧ Vals dvs ds
def tMethU (X : Cx) (CX : CXT) (m : Str) (E : XK) (ta : L2.TE) (t : L2.TA) : L2.TE := fun σ H Q => ta σ H fun x H1 => ∃ C a dx fs sp dvs, x = .ref a ∧ H1 a = some (.ins C dx fs) ∧ Cls X.K C ∧ fs.lookup m = none ∧ Cand X CX m C sp dvs ∧
  t σ H1 fun vs H2 => sp (x :: (vs ++ dvs)) H2 Q E
variable {CX : CXT} {E : XK} {m : Str} {pos apos : Pos} {e o : Expr} {es : List Expr} {ta : L2.TE} {t : L2.TA}
theorem pe_methU {pl : Sem Bool} (he : PE X o ta) (hx : Passes CX X E) (ha : PA X (e :: es) t)
    (hst : starEach (e :: es) X.env = (false, eval e X.env) :: starEach es X.env) (hpl : (backTo pos (starEach es X.env)).any (·.1) = false)
    (ht : eval (.Call (.Attribute o m apos) (e :: es) [] pos) X.env = (do
      let ov ← eval o X.env
      standAt apos.atName
      let (f, first) ← holding [ov] (getMethod ov m pl)
      callWith pos f first (backTo pos (starEach (e :: es) X.env)) (backToKw pos (keywordEach [] X.env)))) :
    PE X (.Call (.Attribute o m apos) (e :: es) [] pos) (tMethU X CX m E ta t) := by
  refine ⟨fun pins s σ H Q I h => ?_⟩
  refine PySem.W.methodCall_KW (pl := pl) (L2.thn (he.run pins s σ H _ I h) fun u s1 ⟨x, H1, I1, rx, C, a, dx, fs, sp, dvs, ex, ea, c, l, ⟨k, f, fd, ps, ds, hm, F, hr, hb, hd⟩, q⟩ => ?_) ht
  subst ex
  obtain rfl : u = Value.ref a := rx
  refine L2.getmeth_ok I1 ea c hm l ?_
  refine PySem.W.callWith_K (first := [.ref a]) (h₀ := X.base) I.ok.mod.kin hm.kp (L2.thn (ha.run pos pins s1 σ H1 _ I1 q) fun us s2 ⟨vs, H2, I2, r, q2⟩ => ⟨I2.kIn, ?_⟩) hst hpl
  exact L2.run_fn (us := .ref a :: us) (vs := .ref a :: vs) F hr hb hd hx I2 (.cons rfl r) q2
theorem pe_methU0 {pl : Sem Bool} (he : PE X o ta) (hx : Passes CX X E)
    (ht : eval (.Call (.Attribute o m apos) [] [] pos) X.env = (do
      let ov ← eval o X.env
      standAt apos.atName
      let (f, first) ← holding [ov] (getMethod ov m pl)
      callWith pos f first (backTo pos (starEach [] X.env)) (backToKw pos (keywordEach [] X.env)))) :
    PE X (.Call (.Attribute o m apos) [] [] pos) (tMethU X CX m E ta L2.tNil) := by
  refine ⟨fun pins s σ H Q I h => ?_⟩
  refine PySem.W.methodCall_KW (pl := pl) (L2.thn (he.run pins s σ H _ I h) fun u s1 ⟨x, H1, I1, rx, C, a, dx, fs, sp, dvs, ex, ea, c, l, ⟨k, f, fd, ps, ds, hm, F, hr, hb, hd⟩, q⟩ => ?_) ht
  subst ex
  obtain rfl : u = Value.ref a := rx
  refine L2.getmeth_ok I1 ea c hm l ?_
  exact PySem.W.callWith_K0 (first := [.ref a]) I1.kIn hm.kp (L2.run_fn (us := [.ref a]) (vs := [.ref a]) F hr hb hd hx I1 (.cons rfl .nil) q)
end

section
variable {X : Cx} {ct : Str → Option Addr} {fx : List Nat} {B B' H H' : Hp} {F : List Cell} {σ σ' : L2.St} {τ : TE0} {CX : CXT} {E : XK}
theorem evA_len : ∀ {as : List SA} {e e' : Env} {avs : List AV}, evA as e = some (avs, e') → avs.length = as.length
  | [], e, e', avs, h => by simp only [evA, Option.some.injEq, Prod.mk.injEq] at h; rw [← h.1]; rfl
  | a :: as, e, e', avs, h => by
    unfold evA at h
    split at h
    · split at h
      · rename_i h2
        cases h
        simp [evA_len h2]
      · cases h
    · cases h
theorem vrel_len {K : PySem.W.Frag} : ∀ {ams : List AMA} {vs : List V}, VRel K ct B σ ams vs → vs.length = ams.length
  | [], vs, h => by unfold VRel at h; subst h; rfl
  | a :: as, vs, h => by unfold VRel at h; obtain ⟨v, r, rfl, _, h2⟩ := h; simp [vrel_len h2]
theorem e_meth {m : Str} {tb : Str → Option Mt} {a : SA} {as : List SA} {Q : VK} (hc : ∀ c t C, tb c = some t → ct c = some C → Cand X CX m C (spR X.K ct t.r t.mu (as.length + 1 + t.dn.length)) (t.dn.map V.int))
    (h : TEf X.K ct (cMeth m tb a as) σ H Q) : tMethU X CX m E (TVf X.K ct a) (TVs X.K ct as) σ H Q := by
  obtain ⟨B, F, τ, st, mm, e', e, q⟩ := h
  unfold cMeth at e
  split at e
  · cases e
  · rename_i av e1 ha
    split at e
    · cases e
    · rename_i c hcl
      split at e
      · cases e
      · rename_i t htb
        split at e
        · cases e
        · rename_i avs e2 has
          split at e
          · cases e
          · rename_i ms e3 ht
            split at e
            · rename_i m' os hr
              cases e
              refine ⟨B, F, τ, st, av, e1, ha, fun v H1 B1 am τ1 a1 => ?_⟩
              have st1 := a1.st
              simp only [List.flatMap_cons, List.flatMap_nil, List.append_nil] at st1
              have o1 := a1.ok
              unfold VRel at o1
              obtain ⟨v', r', z1, o1, _⟩ := o1
              cases z1
              have em1 := a1.em
              simp only [List.map_cons, List.map_nil, List.cons.injEq, and_true] at em1
              have at1 : ∃ C p dx fs, v = .ref p ∧ H1 p = some (.ins C dx fs) ∧ ct c = some C ∧ Cls X.K C ∧ fs.lookup m = none := by
                cases am with
                | m t0 =>
                  obtain ⟨o1, rfl⟩ := o1
                  subst em1
                  simp only [AMA.er, AV.cls] at hcl
                  exact obj_at o1 st1.wf.sub (fun x hx => (st1.wf.own x (List.mem_append_right _ (List.mem_append_left _ hx))).1) hcl
                | lend i =>
                  subst em1
                  simp only [AMA.er, AV.cls] at hcl
                  split at hcl
                  · rename_i mx hmx
                    rw [← a1.ee] at hmx
                    obtain ⟨t0, ht0, rfl⟩ := erE_slot hmx
                    have hv : t0.val = v := by
                      have z := st1.rel.at_ i t0 ht0
                      have o1' : σ[i]? = some (some v) := o1
                      rw [o1'] at z
                      exact (Option.some.inj (Option.some.inj z)).symm
                    rw [← hv]
                    exact obj_at (st1.ok i t0 ht0) st1.wf.sub (cell_of (p := []) st1 ht0 rfl) hcl
                  · cases hcl
              obtain ⟨C, p, dx, fs, ev, hp, hC, cls, lk⟩ := at1
              refine ⟨C, p, dx, fs, _, _, ev, hp, cls, lk, hc c t C htb hC, B1, am.cells ++ F, τ1, st1, avs, e2, by rw [a1.ee]; exact has, fun vs H2 B2 ams τ2 a2 => ?_⟩
              have l1 := evA_len has
              have l2 := vrel_len a2.ok
              have l3 : avs.length = ams.length := by rw [← a2.em, List.length_map]
              have st2 : St X.K ct B2 ((am :: ams).flatMap AMA.cells ++ F) σ τ2 H2 := by
                refine a2.st.framed ?_
                simp only [List.flatMap_cons]
                rw [← List.append_assoc]
                exact List.Perm.append_right _ List.perm_append_comm
              have vr2 : VRel X.K ct B2 σ (am :: ams) (v :: vs) := by
                unfold VRel
                exact ⟨v, vs, rfl, o1.mono a2.sb, a2.ok⟩
              exact call_core (vs := v :: vs) (by simp only [List.length_cons]; omega) st2 vr2 (a1.sb.trans a2.sb) (by simp [em1, a2.em]) (by rw [a2.ee]; exact ht) hr q
            · cases e
theorem e_make {c : Str} {C : Addr} {r : Fn} {dn : List Int} {as : List SA} {Q : VK} (hC : ct c = some C) (cls : Cls X.K C) (h : TEf X.K ct (cMake c r dn as) σ H Q) :
    L2.tMake C (spR X.K ct r [0] (as.length + 1 + dn.length)) (dn.map V.int) E (TVs X.K ct as) σ H Q := by
  obtain ⟨B, F, τ, st, mm, e', e, q⟩ := h
  unfold cMake at e
  split at e
  · cases e
  · rename_i avs e1 ha
    split at e
    · cases e
    · rename_i ms e2 ht
      split at e
      · rename_i o hr
        cases e
        refine ⟨B, F, τ, st, avs, e1, ha, fun vs H1 B1 ams τ1 a1 x dx hx hdx hne => ?_⟩
        have l1 := evA_len ha
        have l2 := vrel_len a1.ok
        have l3 : avs.length = ams.length := by rw [← a1.em, List.length_map]
        obtain ⟨ts, τ2, h1, h2, h3, h4, h5⟩ := take_args (as := ams) a1.st a1.ok (by rw [a1.em, a1.ee]; exact ht)
        obtain ⟨d1, d2, d3⟩ := ints_oks (K := X.K) (ct := ct) (B := B1) (dn := dn)
        have w1 := h3.front
        have w2 := Wf.owned (o := .own x) w1 hdx
        have w3 := Wf.owned (p := x) (o := .ins C dx []) w2 (by rw [upd_ne (Ne.symm hne)]; exact hx)
        refine ⟨by simp only [List.length_cons, List.length_append, List.length_map]; omega, B1, cellsE τ2 ++ F, .obj c C dx x [] [] :: (ts ++ dn.map fun i => .d (.int i) (.int i)), ?_, ?_, ?_, .d .non, [mm], ?_, ?_⟩
        · simp only [MA.cellsL, MA.cells, List.map_nil, List.zip_nil_right, List.cons_append, List.nil_append, cellsL_app, d2, List.append_nil]
          exact w3
        · unfold MA.oks MA.ok
          exact ⟨⟨⟨hC, cls, by simp, by simp⟩, rfl, by unfold MA.oks; trivial⟩, oks_app h4 d1⟩
        · simp only [List.map_cons, List.map_append, h5, MA.val, List.map_map]; rfl
        · simp only [MA.ers, MA.er]
          rw [ers_map, List.map_append, ← ers_map, ← ers_map, h1, d3]; exact hr
        · intro v H' B' t us w sb' ok oks em' eo ev eu
          have us1 : ∃ u, us = [u] ∧ u.er = mm ∧ u.val = .ref x := by
            cases us with
            | nil => simp [MA.ers] at eo
            | cons u us =>
              simp only [MA.ers, List.cons.injEq] at eo
              cases us with
              | nil => exact ⟨u, rfl, eo.1, by simpa using eu⟩
              | cons _ _ => simp [MA.ers] at eo
          obtain ⟨u, rfl, eu1, eu2⟩ := us1
          have vn : v = .non := by
            cases t with
            | d y w' =>
              simp only [MA.er, M.d.injEq] at em'
              subst em'
              unfold MA.ok RepD at ok
              rw [← ev]; exact ok
            | lst a ts => simp [MA.er] at em'
            | obj c C dx a ns ts => simp [MA.er] at em'
          refine ⟨vn, ?_⟩
          unfold MA.oks at oks
          have s4 : St X.K ct B' (u.cells ++ F) σ τ2 H' := by
            have wd := w.drop
            simp only [MA.cellsL, List.append_nil] at wd
            exact St.ofFront wd (h3.ok.mono sb') h3.rel
          exact q _ H' B' u τ2 ⟨s4, oks.1, a1.sb.trans sb', h2, eu1, eu2⟩
      · cases e
end
end Ev
set_option Elab.async false
set_option linter.all false
set_option maxRecDepth 100000
set_option maxHeartbeats 1000000
/-! A def keeps its promise. -/
namespace Ev
open PySem PySem.Spec PyProof.Rows PySem.Calls
open L2 (V HO Hp SqL SqT Same upd upd_same upd_ne Cx PE PT PA PI PG PS PSs Ends It Inv RelV Vals VK Gl TI XK Sp CXT FnOk Room Binds Passes Meth Cls CX0 cxOf FnScope)

section
variable {K : PySem.W.Frag} {ct : Str → Option Addr} {fx : List Nat} {B B' H H' : Hp} {F : List Cell} {σ σ' : L2.St} {τ : TE0}
theorem take_outs : ∀ {mu : List Nat} {τ : TE0} {F : List Cell} {os : List M}, St K ct B F σ τ H → takeO mu (erE τ) = some os →
    ∃ us τ2, MA.ers us = os ∧ St K ct B (MA.cellsL us ++ F) σ τ2 H ∧ MA.oks K ct B us ∧ us.map (fun u : MA => some (some u.val)) = mu.map (fun j : Nat => σ[j]?)
  | [], τ, F, os, st, e => by
    simp only [takeO, Option.some.injEq] at e
    subst e
    exact ⟨[], τ, by simp [MA.ers], by simpa [MA.cellsL] using st, by unfold MA.oks; trivial, rfl⟩
  | j :: mu, τ, F, os, st, e => by
    unfold takeO at e
    split at e
    · rename_i m hm
      split at e
      · rename_i ms hms
        cases e
        obtain ⟨t, ht, rfl⟩ := erE_slot hm
        have st1 := St.takeout (i := j) st ht
        have hms2 : takeO mu (erE (τ.set j none)) = some ms := by rw [erE_set]; exact hms
        obtain ⟨us, τ2, h1, h2, h3, h4⟩ := take_outs st1 hms2
        refine ⟨t :: us, τ2, by simp [MA.ers, h1], h2.framed ?_, by unfold MA.oks; exact ⟨st.ok j t ht, h3⟩, ?_⟩
        · simp only [MA.cellsL]
          rw [← List.append_assoc]
          exact List.Perm.append_right _ List.perm_append_comm
        · simp only [List.map_cons, h4]
          rw [st.rel.at_ j t ht]
      · cases e
    · cases e
theorem cells_start : ∀ {ts : List MA} {n : Nat}, cellsE (ts.map some ++ List.replicate n none) = MA.cellsL ts
  | [], n => by
    simp only [List.map_nil, List.nil_append, MA.cellsL, cellsE]
    induction n with
    | zero => rfl
    | succ n ih => rw [List.replicate_succ, List.flatMap_cons, ih]; rfl
  | t :: r, n => by
    simp only [List.map_cons, List.cons_append, MA.cellsL]
    rw [← cells_start (ts := r) (n := n)]
    simp [cellsE, cellsO]
theorem er_start {ts : List MA} {n : Nat} : erE (ts.map some ++ List.replicate (n - ts.length) none) = startE n (MA.ers ts) := by
  unfold erE startE
  rw [List.map_append, List.map_map, List.map_replicate, ers_map, List.map_map, List.length_map]
  rfl
theorem start_get {N : List Str} {vs : List V} {j : Nat} {v : V} (h : (L2.start N vs)[j]? = some (some v)) : vs[j]? = some v := by
  unfold L2.start at h
  by_cases hi : j < vs.length
  · rw [List.getElem?_append_left (by simpa using hi), List.getElem?_map] at h
    cases e : vs[j]? with
    | none => rw [e] at h; cases h
    | some a => rw [e] at h; simpa using h
  · rw [List.getElem?_append_right (by simpa using hi), List.getElem?_replicate] at h
    split at h <;> cases h
theorem outs_of {N : List Str} {vs : List V} {mu : List Nat} {us : List MA} (kp : ∀ i ∈ mu, σ[i]? = (L2.start N vs)[i]?) (h : us.map (fun u : MA => some (some u.val)) = mu.map (fun j : Nat => σ[j]?)) : us.map (fun u : MA => some u.val) = mu.map (fun j : Nat => vs[j]?) := by
  induction mu generalizing us with
  | nil =>
    have : us = [] := by simpa using h
    subst this; rfl
  | cons j mu ih =>
    cases us with
    | nil => simp at h
    | cons u us =>
      simp only [List.map_cons, List.cons.injEq] at h ⊢
      refine ⟨?_, ih (fun i hi => kp i (List.mem_cons_of_mem _ hi)) h.2⟩
      have z := h.1
      rw [kp j List.mem_cons_self] at z
      exact (start_get z.symm).symm
/-- a def as it stands -/
structure FnW (K : PySem.W.Frag) (x qual : Str) (params : Arguments) (body : List Stmt) (scope : Scope) (f : Addr) (fd : FuncData) : Prop where
  ex : ∃ (oc : Value) (od : Option Addr) (dV kV doc pm : Value) (an : Option Addr) (cdv ct : Value) (osl : Array (Option Value)),
    fd = PySem.W.fnOf x qual params body scope dV kV doc pm an cdv ct ∧ K.lookup f = some ⟨oc, od, .func fd, osl⟩ ∧ PySem.W.codeIn K cdv qual = true
theorem fn_def {P : Program} {w : World} {mg : Str → Option Value} {base : Heap} {x qual : Str} {params : Arguments} {body : List Stmt} {scope : Scope} {f : Addr} {fd : FuncData} {N ps : List Str} {k : Nat} {mu : List Nat} {g : SS}
    (W : FnW K x qual params body scope f fd) (S : FnScope N ps scope)
    (hb : ∀ (cdv : Value) (A : Around) (outer : List PySem.Env) (s : Shared) (H : Hp) (E : XK), Room k (A.deeper (envOfC qual scope s.heap.objs.size f cdv)) → PSs (cxOf CX0 P w K mg base N qual scope f cdv A outer s H E).nox body (TSf K ct mu g)) :
    FnOk P w K mg base CX0 (k + 1) f fd ps (spR K ct (runF g N.length ps.length mu) mu ps.length) := by
  obtain ⟨oc, od, dV, kV, doc, pm, an, cdv, ctv, osl, rfl, lk, hcd⟩ := W.ex
  refine L2.fn_of lk hcd S (fun vs H Q E h => h.1) fun A outer s H vs Q E hr hsp => ⟨TSf K ct mu g, (hb cdv A outer s H E hr).nox, ?_⟩
  obtain ⟨hl, B, F, ts, w, oks, hv, m, os, hrun, q⟩ := hsp
  have hpl : ps.length ≤ N.length := by have := congrArg List.length S.pre; rw [List.length_take] at this; omega
  have hts : ts.length = vs.length := by rw [← hv, List.length_map]
  unfold runF at hrun
  rw [if_pos (by rw [ers_map, List.length_map, hts, hl])] at hrun
  have st : St K ct B F (L2.start N vs) (ts.map some ++ List.replicate (N.length - ts.length) none) H := by
    refine ⟨by rw [cells_start]; exact w, fun i t e => ?_, ?_, fun i t e => ?_⟩
    · by_cases hi : i < ts.length
      · rw [List.getElem?_append_left (by simpa using hi), List.getElem?_map] at e
        cases h : ts[i]? with
        | none => rw [h] at e; cases e
        | some u =>
          rw [h] at e
          have e2 : u = t := by simpa using e
          subst e2
          exact oks_iff.mp oks u (List.mem_of_getElem? h)
      · rw [List.getElem?_append_right (by simpa using hi), List.getElem?_replicate] at e
        split at e <;> cases e
    · unfold L2.start
      simp only [List.length_append, List.length_map, List.length_replicate, hts]
    · by_cases hi : i < ts.length
      · rw [List.getElem?_append_left (by simpa using hi), List.getElem?_map] at e
        cases h : ts[i]? with
        | none => rw [h] at e; cases e
        | some u =>
          rw [h] at e
          have e2 : u = t := by simpa using e
          subst e2
          unfold L2.start
          rw [List.getElem?_append_left (by simp [← hts, hi]), ← hv, List.getElem?_map, List.getElem?_map, h]
          rfl
      · rw [List.getElem?_append_right (by simpa using hi), List.getElem?_replicate] at e
        split at e <;> cases e
  have fin : ∀ {σ' : L2.St} {τ' : TE0} {B' H' : Hp} {t : MA} {os : List M}, St K ct B' (t.cells ++ F) σ' τ' H' → (∀ i ∈ mu, σ'[i]? = (L2.start N vs)[i]?) → takeO mu (erE τ') = some os →
      ∃ us, Wf B' (t.cells ++ (MA.cellsL us ++ F)) H' ∧ MA.oks K ct B' us ∧ MA.ers us = os ∧ us.map (fun u : MA => some u.val) = mu.map (fun j : Nat => vs[j]?) := by
    intro σ' τ' B' H' t os s kp ho
    obtain ⟨us, τ2, h1, h2, h3, h4⟩ := take_outs s ho
    refine ⟨us, ?_, h3, h1, outs_of kp h4⟩
    refine (h2.wf.drop).perm ?_
    rw [← List.append_assoc, ← List.append_assoc]
    exact List.Perm.append_right _ List.perm_append_comm
  cases hg : g (startE N.length (MA.ers ts)) with
  | none => rw [hg] at hrun; cases hrun
  | some r =>
    rw [hg] at hrun
    refine ⟨B, F, _, st, r, by rw [er_start]; exact hg, ?_⟩
    cases r with
    | bk e => cases hrun
    | ct e => cases hrun
    | nx e =>
      simp only at hrun
      split at hrun
      · rename_i os' ho
        cases hrun
        intro σ' H' B' τ' a
        have s2 : St K ct B' ((MA.d .non .non).cells ++ F) σ' τ' H' := by simpa [MA.cells] using a.st
        obtain ⟨us, h1, h2, h3, h4⟩ := fin s2 a.kp (by rw [a.ee]; exact ho)
        exact q .non H' B' (.d .non .non) us h1 a.sb (by unfold MA.ok RepD; rfl) h2 (by simp [MA.er]) h3 rfl h4
      · cases hrun
    | rt m' e =>
      simp only at hrun
      split at hrun
      · rename_i os' ho
        cases hrun
        intro v σ' H' B' t τ' a
        obtain ⟨us, h1, h2, h3, h4⟩ := fin a.a.st a.kp (by rw [a.a.ee]; exact ho)
        exact q v H' B' t us h1 a.a.sb a.a.ok h2 a.a.em h3 a.a.ev h4
      · cases hrun
end
end Ev
set_option Elab.async false
set_option linter.all false
set_option maxRecDepth 100000
set_option maxHeartbeats 1000000
/-! The meaning of the text: from the syntax tree to the combinators. -/
namespace Ev
open PySem

/-- a block's names -/
structure Cn where
  N : List Str
  sc : Scope
  fn : Str → Bool
/-- what is known of the program: functions, classes (with their fields), methods, whole-number constants -/
structure FnI where
  r : Fn
  mu : List Nat
  np : Nat
  dn : List Int
structure Gt where
  fns : Str → Option FnI
  mks : Str → Option FnI
  mts : Str → Str → Option FnI
  cst : Str → Option Int
  fa : Str → Str → Bool
  wh : Nat
structure Sm where
  k : Cn → Expr → SK
  p : Cn → Expr → SP
  e : Cn → Expr → SE
  t : Cn → Expr → ST
def Sm.bot : Sm := ⟨fun _ _ _ => none, fun _ _ _ => none, fun _ _ _ => none, fun _ _ _ => none⟩

def ixOf (N : List Str) (x : Str) : Option Nat := N.findIdx? fun y => decide (y = x)
def vis (sc : Scope) (x : Str) : Bool := match sc.names.lookup x with | some .local => true | some .cell => true | some .free => true | _ => false
def isGl (sc : Scope) (x : Str) : Bool := match sc.names.lookup x with | some .globalImplicit => true | _ => false
def isDunder (x : Str) : Bool := decide (x = ("__debug__" : Str)) || decide (x = ("__classdict__" : Str)) || decide (x = ("__name__" : Str))
/-- the slot of a name that may be read -/
def rdSlot (C : Cn) (x : Str) : Option Nat := if vis C.sc x && !isDunder x then ixOf C.N x else none
/-- .. that may be bound -/
def wrSlot (C : Cn) (x : Str) : Option Nat := match C.sc.names.lookup x with
  | some .local => ixOf C.N x
  | some .cell => if C.fn x then ixOf C.N x else none
  | _ => none
def glob (C : Cn) (x : Str) : Bool := isGl C.sc x && !isDunder x
/-- no star, no set, no slice, no comprehension -/
def okX : Expr → Bool
  | .Starred .. => false
  | .Set .. => false
  | .Slice .. => false
  | .SetComp .. => false
  | .DictComp .. => false
  | _ => true
/-- what may stand ahead of a dot -/
def okB : Expr → Bool
  | .Call (.Name _ _) [] [] _ => false
  | _ => true
/-- a look -/
def isK (C : Cn) : Expr → Bool
  | .Name x _ => (rdSlot C x).isSome
  | .Attribute o _ _ => isK C o
  | .Subscript o _ _ => isK C o
  | _ => false
/-- a pure value -/
def isP (C : Cn) : Expr → Bool
  | .Constant .. => true
  | .Name _ _ => true
  | .Attribute o _ _ => isK C o
  | .Subscript o i _ => isK C o && isP C i
  | .BinOp a _ b _ => isP C a && isP C b
  | .UnaryOp .USub a _ => isP C a
  | _ => false
def isPath (C : Cn) : Expr → Bool
  | .Name x _ => (rdSlot C x).isSome
  | .Attribute o _ _ => isPath C o
  | .Subscript o i _ => isPath C o && isP C i && okX i
  | _ => false
def conD : Const → Option D
  | .int i => some (.int i)
  | .bool b => some (.bl b)
  | .none => some .non
  | .str s => some (.str s)
  | _ => none
def stK (G : Gt) (S : Sm) (C : Cn) : Expr → SK
  | .Name x _ => match rdSlot C x with
    | some i => kVar i
    | none => if glob C x then (match G.cst x with | some c => fun _ => some (.val (.int c)) | none => fun _ => none) else fun _ => none
  | .Attribute o f _ => if okB o then kFld (S.k C o) f else fun _ => none
  | .Subscript o i _ => if okX i then kIdx (S.k C o) (S.p C i) else fun _ => none
  | _ => fun _ => none
def stP (G : Gt) (S : Sm) (C : Cn) : Expr → SP
  | .Constant c _ _ => match conD c with | some d => pC d | none => fun _ => none
  | .BinOp a op b _ => pBin op (S.p C a) (S.p C b)
  | .UnaryOp .USub a _ => pNeg (S.p C a)
  | .Call (.Name f _) [a] [] _ => if glob C f && decide (f = ("len" : Str)) && okX a then pLen (S.k C a) else fun _ => none
  | .Name x p => pOf (S.k C (.Name x p))
  | .Attribute o f p => pOf (S.k C (.Attribute o f p))
  | .Subscript o i p => pOf (S.k C (.Subscript o i p))
  | _ => fun _ => none
def nil1 : SE := fun _ => none
/-- a built-in function of one sequence -/
def seqF (f : Str) : Option (D → Option M) :=
  if f = ("len" : Str) then some lenD else if f = ("list" : Str) then some lstD else if f = ("tuple" : Str) then some tupD else if f = ("sum" : Str) then some sumD
  else if f = ("min" : Str) then some minD else if f = ("max" : Str) then some maxD else if f = ("sorted" : Str) then some sortD else none
def tyN (x : Str) : Option String := if x = ("int" : Str) then some "int" else if x = ("bool" : Str) then some "bool" else if x = ("str" : Str) then some "str" else if x = ("tuple" : Str) then some "tuple" else if x = ("list" : Str) then some "list" else none
/-- an argument: lent, where the callee changes it -/
def argA (S : Sm) (C : Cn) (lend : Bool) (e : Expr) : SA := match lend, e with
  | true, .Name x _ => match rdSlot C x with | some i => aL i | none => aV nil1
  | _, e => aV (S.e C e)
def argAs (S : Sm) (C : Cn) (mu : List Nat) : Nat → List Expr → List SA
  | _, [] => []
  | j, e :: r => argA S C (mu.contains j) e :: argAs S C mu (j + 1) r
def FnI.fill (i : FnI) (n : Nat) : List Int := i.dn.drop (i.dn.length - (i.np - n))
def callE (S : Sm) (C : Cn) (i : FnI) (es : List Expr) : SE := if es.all okX && decide (es.length + (i.fill es.length).length = i.np) then cCall i.r i.mu (i.fill es.length) (argAs S C i.mu 0 es) else nil1
def makeE (S : Sm) (C : Cn) (c : Str) (i : FnI) (es : List Expr) : SE := if es.all okX && decide (i.mu = [0]) && decide (es.length + 1 + (i.fill (es.length + 1)).length = i.np) then cMake c i.r (i.fill (es.length + 1)) (es.map fun e => aV (S.e C e)) else nil1
def isNm (e : Expr) (f : Str) : Option (List Expr) := match e with | .Call (.Name g _) es [] _ => if g = f then some es else none | _ => none
/-- f(a), f a built-in function of one sequence -/
def stSeq (S : Sm) (C : Cn) (f : Str) (g : D → Option M) (a : Expr) : SE :=
  if f = ("len" : Str) ∧ isPath C a = true then cP (pLen (S.k C a))
  else match isNm a "set" with
    | some [b] => if f = ("len" : Str) ∧ glob C "set" = true ∧ okX b = true then (if isPath C b then bK lenSet (S.k C b) else bV (one lenSet) [S.e C b]) else nil1
    | some _ => nil1
    | none => match isNm a "range" with
      | some es => if f = ("list" : Str) ∧ glob C "range" = true ∧ es.all okX = true ∧ (es.length = 1 ∨ es.length = 2) then bV lstRange (es.map (S.e C)) else nil1
      | none => if isPath C a then bK g (S.k C a) else bV (one g) [S.e C a]
def stBlt (S : Sm) (C : Cn) (f : Str) (es : List Expr) : SE := match es with
  | [a] => if !okX a then nil1 else match seqF f with
    | some g => stSeq S C f g a
    | none => if f = ("int" : Str) then bV intL [S.e C a] else if f = ("abs" : Str) then bV absL [S.e C a] else nil1
  | [a, b] => if !(okX a && okX b) then nil1 else
    if f = ("isinstance" : Str) then (match b with
      | .Name T _ => if glob C T then (match tyN T with | some t => bV (one (isTs [t])) [S.e C a] | none => nil1) else nil1
      | .Tuple [.Name T _, .Name U _] _ _ => if glob C T && glob C U then (match tyN T, tyN U with | some t, some u => bV (one (isTs [t, u])) [S.e C a] | _, _ => nil1) else nil1
      | _ => nil1)
    else if f = ("min" : Str) then bV minL [S.e C a, S.e C b]
    else if f = ("max" : Str) then bV maxL [S.e C a, S.e C b] else nil1
  | _ => nil1
def isBlt (f : Str) : Bool := (seqF f).isSome || decide (f = ("int" : Str)) || decide (f = ("abs" : Str)) || decide (f = ("isinstance" : Str))
def Gt.meth (G : Gt) (m : Str) (n : Nat) : Str → Option Mt := fun c => match G.mts m c with
  | some i => if n + 1 + (i.fill (n + 1)).length = i.np then some ⟨i.r, i.mu, i.fill (n + 1)⟩ else none
  | none => none
def stCall (G : Gt) (S : Sm) (C : Cn) (f : Expr) (es : List Expr) (pos : Pos) : SE := match f with
  | .Name x _ => if glob C x then (match G.fns x with
      | some i => callE S C i es
      | none => match G.mks x with
        | some i => makeE S C x i es
        | none => if isBlt x then stBlt S C x es else nil1) else nil1
  | .Attribute o m apos => if okB o && okX o && es.all okX && (apos.endLine == pos.line) && decide (es.length < 20) then
      (if m = ("index" : Str) ∨ m = ("count" : Str) then (match es with
        | [a] => let mm := if m = ("index" : Str) then "index" else "count"
          if isPath C o && isP C a then mK mm (S.k C o) [S.p C a] else mV mm (S.e C o) [S.e C a]
        | _ => nil1)
      else cMeth m (G.meth m es.length) (argA S C true o) (es.map fun e => aV (S.e C e))) else nil1
  | _ => nil1
/-- own names of a comprehension -/
def ownL (N : List Str) : List (Str × NameKind) → Option (List (Str × Nat))
  | [] => some []
  | (x, k) :: r => match ownL N r with
    | none => none
    | some l => match k with
      | .local => if x = (".0" : Str) then some l else (match ixOf N x with | some i => some ((x, i) :: l) | none => none)
      | .cell => if x = (".0" : Str) then some l else (match ixOf N x with | some i => some ((x, i) :: l) | none => none)
      | _ => some l
mutual
def stG (C : Cn) : Expr → Option Tg
  | .Name x _ => match wrSlot C x with | some i => some (.n i) | none => none
  | .Tuple es _ _ => match stGs C es with | some gs => some (.t gs) | none => none
  | _ => none
def stGs (C : Cn) : List Expr → Option (List Tg)
  | [] => some []
  | e :: r => match stG C e with
    | some g => match stGs C r with | some gs => some (g :: gs) | none => none
    | none => none
end
def isTup : Expr → Bool | .Tuple .. => true | _ => false
def stI (S : Sm) (C : Cn) (tup : Bool) (e : Expr) : Option SI := if okX e = false then none else
  match isNm e "range" with
  | some es => if glob C "range" && es.all okX && (decide (es.length = 1) || decide (es.length = 2)) then some (iRng (es.map (S.e C))) else none
  | none => match isNm e "enumerate" with
    | some es => (match es with | [a] => if glob C "enumerate" && okX a && tup then some (iEnum (S.e C a)) else none | _ => none)
    | none => match isNm e "reversed" with
      | some es => (match es with | [a] => if glob C "reversed" && okX a then some (iRev (S.e C a)) else none | _ => none)
      | none => match isNm e "zip" with
        | some es => (match es with | [a, b] => if glob C "zip" && okX a && okX b && tup then some (iZip (S.e C a) (S.e C b)) else none | _ => none)
        | none => some (iV (S.e C e))
def Cn.blk (C : Cn) (scope : Scope) : Cn := ⟨C.N, L2.relS scope C.sc, fun x => scope.names.lookup x == some .cell⟩
def stComp (S : Sm) (C : Cn) (elt : Expr) (gs : List Comprehension) (scope : Scope) : SE := match gs with
  | [⟨tg, iter, ifs, 0⟩] => match ownL C.N scope.names with
    | some own => if L2.blkC C.N C.sc scope own then
        (match stI S C (isTup tg) iter, stG (C.blk scope) tg with
        | some it, some g => (match ifs with
          | [] => cComp (own.map (·.2)) it g tYes (S.e (C.blk scope) elt)
          | [c] => cComp (own.map (·.2)) it g (S.t (C.blk scope) c) (S.e (C.blk scope) elt)
          | _ => nil1)
        | _, _ => nil1) else nil1
    | none => nil1
  | _ => nil1
def andE : List SE → SE | [] => nil1 | [a] => a | a :: b :: r => cAnd a (andE (b :: r))
def orE : List SE → SE | [] => nil1 | [a] => a | a :: b :: r => cOr a (orE (b :: r))
def andT : List ST → ST | [] => fun _ => none | [a] => a | a :: b :: r => tAnd a (andT (b :: r))
def orT : List ST → ST | [] => fun _ => none | [a] => a | a :: b :: r => tOr a (orT (b :: r))
def stCmp (S : Sm) (C : Cn) (a : Expr) (op : CmpOp) (b : Expr) : SE := match op with
  | .In => if isPath C b && isP C a then cInK false (S.p C a) (S.k C b) else cIn false (S.e C a) (S.e C b)
  | .NotIn => if isPath C b && isP C a then cInK true (S.p C a) (S.k C b) else cIn true (S.e C a) (S.e C b)
  | op => cCmp op (S.e C a) (S.e C b)
def stE (G : Gt) (S : Sm) (C : Cn) : Expr → SE
  | .Constant c _ _ => match conD c with | some d => cP (pC d) | none => nil1
  | .Name x p => cK (S.k C (.Name x p))
  | .Attribute o f p => if okB o then (if isPath C o then cK (S.k C (.Attribute o f p)) else cFld (S.e C o) f) else nil1
  | .Subscript o i p => match i with
    | .Slice lo hi none _ => if (lo.all okX) && (hi.all okX) then cSl (S.e C o) (lo.map (S.e C)) (hi.map (S.e C)) else nil1
    | .Slice _ _ _ _ => nil1
    | i => if okX i then (if isPath C o && isP C i then cK (S.k C (.Subscript o i p)) else match o with
      | .Name x _ => (match rdSlot C x with | some j => cIxV j (S.e C i) | none => nil1)
      | o => cIx (S.e C o) (S.e C i)) else nil1
  | .BinOp a op b _ => cBin op (S.e C a) (S.e C b)
  | .UnaryOp .USub a _ => cNeg (S.e C a)
  | .UnaryOp .Not a _ => cNot (S.e C a)
  | .BoolOp .And es _ => andE (es.map (S.e C))
  | .BoolOp .Or es _ => orE (es.map (S.e C))
  | .Compare a [op] [b] _ => if okX b then stCmp S C a op b else nil1
  | .IfExp t a b _ => cIf (S.t C t) (S.e C a) (S.e C b)
  | .Tuple es _ _ => if es.all okX then cTup (es.map (S.e C)) else nil1
  | .List es _ => if es.all okX then cLst (es.map (S.e C)) else nil1
  | .Call f es [] pos => stCall G S C f es pos
  | .ListComp elt gs scope _ => stComp S C elt gs scope
  | _ => nil1
def stT (S : Sm) (C : Cn) : Expr → ST
  | .UnaryOp .Not a _ => tNot (S.t C a)
  | .BoolOp .And es _ => andT (es.map (S.t C))
  | .BoolOp .Or es _ => orT (es.map (S.t C))
  | .Compare a [op] [b] _ => if okX b then tB (stCmp S C a op b) else fun _ => none
  | .Compare _ _ _ _ => fun _ => none
  | .IfExp _ _ _ _ => fun _ => none
  | e => if isPath C e then tK (S.k C e) else tV (S.e C e)
def Sm.step (G : Gt) (S : Sm) : Sm := ⟨stK G S, stP G S, stE G S, stT S⟩
def sm (G : Gt) : Nat → Sm
  | 0 => Sm.bot
  | n + 1 => Sm.step G (sm G n)

/-! ### statements -/
def isCompX : Expr → Bool | .ListComp .. => true | .SetComp .. => true | .DictComp .. => true | _ => false
def freeOf (fx : List Nat) (ns : List Nat) : Bool := ns.all fun j => !fx.contains j
def stAsg (G : Gt) (S : Sm) (C : Cn) (fx : List Nat) (tg v : Expr) : SS := match tg with
  | .Name x p => match wrSlot C x with
    | some i => if freeOf fx [i] && okX v then sAsg i (S.e C v) else sFail
    | none => sFail
  | .Tuple es k p => if isTup v || isCompX v then sFail else match stG C (.Tuple es k p) with
    | some g => if freeOf fx g.ns then sTgt g (S.e C v) else sFail
    | none => sFail
  | .Subscript o i p => if isCompX v then sFail else if okX i then sIdx (S.k C o) (S.p C i) (S.e C v) else sFail
  | .Attribute o f p => if isCompX v then sFail else sFld G.fa (S.k C o) f (S.e C v)
  | _ => sFail
def stExp (S : Sm) (C : Cn) (e : Expr) : SS := match e with
  | .Constant (.str _) _ _ => sSkip
  | .Call (.Attribute o m apos) [a] [] pos => if m = ("append" : Str) then
      (if okX a && okB o && (apos.endLine == pos.line) then (match o with
        | .Name x _ => (match rdSlot C x with | some i => sApp i (S.e C a) | none => sFail)
        | o => sAppK (S.k C o) (S.p C a)) else sFail)
    else sDrop (S.e C e)
  | e => if isCompX e then sFail else sDrop (S.e C e)
def augS (C : Cn) (fx : List Nat) (S : Sm) (x : Str) (op : Operator) (e : Expr) : SS := match wrSlot C x with
  | some i => if freeOf fx [i] then (match op with | .Add => sAug i .Add (S.e C e) | .Sub => sAug i .Sub (S.e C e) | _ => sFail) else sFail
  | none => sFail
mutual
def stS (G : Gt) (S : Sm) (C : Cn) (fx : List Nat) : Stmt → SS
  | .Assign [tg] v _ => stAsg G S C fx tg v
  | .AugAssign (.Name x _) op e _ => augS C fx S x op e
  | .Expr e _ => stExp S C e
  | .Return none _ => sRetN
  | .Return (some (.Name x p)) _ => match rdSlot C x with | some i => sRetV i | none => sRet (S.e C (.Name x p))
  | .Return (some e) _ => sRet (S.e C e)
  | .If c a b _ => sIf (S.t C c) (stSs G S C fx a) (stSs G S C fx b)
  | .For tg it body [] _ => match stI S C (isTup tg) it, stG C tg with
    | some i, some g => if freeOf fx g.ns then sFor i g (stSs G S C fx body) else sFail
    | _, _ => sFail
  | .While c body [] _ => sWhile G.wh (S.t C c) (stSs G S C fx body)
  | .Assert t _ _ => sAssert (S.t C t)
  | .Break _ => sBreak
  | .Continue _ => sCont
  | .Pass _ => sSkip
  | _ => sFail
def stSs (G : Gt) (S : Sm) (C : Cn) (fx : List Nat) : List Stmt → SS
  | [] => sSkip
  | s :: r => sSeq (stS G S C fx s) (stSs G S C fx r)
end
end Ev
set_option Elab.async false
set_option linter.all false
set_option maxRecDepth 100000
set_option maxHeartbeats 1000000
/-! The text's meaning is what the machine does: expressions. -/
namespace Ev
open PySem PySem.Spec PyProof.Rows PySem.Calls
open L2 (V HO Hp SqL SqT Same upd upd_same upd_ne Cx PE PT PA PI PG PS PSs PW PO Ends It Inv RelV Vals VK Gl TI XK Sp CXT FnOk Room Binds Passes Meth Cls Mk CX0 FnScope OpR CallR IxR PlainIx)

/-! ### the text's forms -/
theorem star_of {e : Expr} {es : List Expr} {env : PySem.Env} (h : okX e = true) : starEach (e :: es) env = (false, eval e env) :: starEach es env := by
  cases e <;> first | rfl | (simp [okX] at h)
theorem star_one {e : Expr} {env : PySem.Env} (h : okX e = true) : starEach [e] env = [(false, eval e env)] := by rw [star_of h]; rfl
theorem star_any {pos : Pos} {env : PySem.Env} : ∀ {es : List Expr}, es.all okX = true → (backTo pos (starEach es env)).any (·.1) = false
  | [], _ => rfl
  | e :: es, h => by
    simp only [List.all_cons, Bool.and_eq_true] at h
    rw [star_of h.1]
    have ih := star_any (pos := pos) (env := env) h.2
    simp only [backTo, List.map_cons, List.any_cons] at ih ⊢
    simpa using ih
theorem base_of {o : Expr} {f : Str} {env : PySem.Env} (h : okB o = true) : attributeBase o f env (eval o env) = eval o env := by
  cases o with
  | Call fn as kws pos =>
    cases fn with
    | Name x p =>
      cases as with
      | nil =>
        cases kws with
        | nil => simp [okB] at h
        | cons _ _ => rfl
      | cons _ _ => rfl
    | _ => rfl
  | _ => rfl
theorem plain_of {e : Expr} (h : okX e = true) : PlainIx e := by
  intro o i
  cases e <;> first | rfl | (simp [okX] at h)
theorem mark_of {op : CmpOp} {e : Expr} (h : okX e = true) : behindInMarks op e = false := by
  cases e <;> first | rfl | (simp [okX] at h)
theorem fold_of {e : Expr} {env : PySem.Env} (h : okX e = true) : ∀ x, foldedSetIterable e env x = pure x := by
  intro x
  cases e <;> first | rfl | (simp [okX] at h)
theorem swap_of {e : Expr} {t : Option Expr} {l : Nat} {env : PySem.Env} (h : isCompX e = false) : swapsWith e t l env = pure false := by
  cases e <;> first | rfl | (simp [isCompX] at h)
theorem ix_of : ∀ {N : List Str} {x : Str} {i : Nat}, ixOf N x = some i → N[i]? = some x := by
  intro N x i h
  unfold ixOf at h
  obtain ⟨h1, h2, _⟩ := List.findIdx?_eq_some_iff_getElem.mp h
  rw [List.getElem?_eq_getElem h1]
  simpa using h2

/-! ### what is known -/
section
variable (P : Program) (w : World) (K : PySem.W.Frag) (mg : Str → Option Value) (base : Heap) (A : Around) (ct : Str → Option Addr) (G : Gt)
def Bnd (i : FnI) (fd : FuncData) (ps : List Str) : Prop := ps.length = i.np ∧ ∀ n, n + (i.fill n).length = i.np → ∃ ds, Vals ((i.fill n).map V.int) ds ∧ Binds K fd ps ds
structure Wo : Prop where
  un : A.units + 64 < cLine
  free : ∀ b ∈ ["len", "list", "tuple", "sum", "min", "max", "sorted", "int", "abs", "isinstance", "set", "range", "enumerate", "reversed", "zip", "bool", "str"], mg (Str.ofString b) = none
  cst : ∀ x c, G.cst x = some c → ∃ t, mg x = some (.int c t)
  fns : ∀ x i, G.fns x = some i → ∃ k f fd ps, mg x = some (.ref f) ∧ PySem.W.keepIn K (.ref f) = true ∧ FnOk P w K mg base CX0 k f fd ps (spR K ct i.r i.mu i.np) ∧ Room k A ∧ Bnd K i fd ps
  mks : ∀ x i, G.mks x = some i → ∃ k C f fd ps, mg x = some (.ref C) ∧ ct x = some C ∧ Cls K C ∧ Mk K C f ∧ FnOk P w K mg base CX0 k f fd ps (spR K ct i.r i.mu i.np) ∧ Room (k + 1) A ∧ Bnd K i fd ps
  mts : ∀ m c i C, G.mts m c = some i → ct c = some C → ∃ k f fd ps, Meth K C m f ∧ FnOk P w K mg base CX0 k f fd ps (spR K ct i.r i.mu i.np) ∧ Room k A ∧ Bnd K i fd ps
  fa : ∀ c f C, G.fa c f = true → ct c = some C → L2.NoAttr K C f
end
structure Fac (X : Cx) (ct : Str → Option Addr) (G : Gt) (C : Cn) : Prop where
  N : X.N = C.N
  sc : X.env.scope = C.sc
  fn : X.fn = C.fn
  calm : X.calm = true
  nd : X.N.Nodup
  nox : X.xe = fun _ _ => False
  kind : X.env.scope.kind = .function
  w : Wo X.prog X.w X.K X.mg X.base X.A ct G
structure SOk (ct : Str → Option Addr) (G : Gt) (S : Sm) : Prop where
  k : ∀ X C, Fac X ct G C → ∀ e, PE X e (TKf X.K ct (S.k C e))
  p : ∀ X C, Fac X ct G C → ∀ e, PE X e (TPf X.K ct (S.p C e))
  e : ∀ X C, Fac X ct G C → ∀ e, PE X e (TEf X.K ct (S.e C e))
  t : ∀ X C, Fac X ct G C → ∀ e, PT X e (TTf X.K ct (S.t C e))
section
variable {X : Cx} {ct : Str → Option Addr} {G : Gt} {C : Cn} {S : Sm}
theorem failK {e : Expr} : PE X e (TKf X.K ct fun _ => none) := ⟨fun _ _ _ _ _ _ ⟨_, _, _, _, _, h, _⟩ => by cases h⟩
theorem failP {e : Expr} : PE X e (TPf X.K ct fun _ => none) := ⟨fun _ _ _ _ _ _ ⟨_, _, _, _, _, h, _⟩ => by cases h⟩
theorem failE {e : Expr} : PE X e (TEf X.K ct nil1) := ⟨fun _ _ _ _ _ _ ⟨_, _, _, _, _, _, h, _⟩ => by cases h⟩
theorem failT {e : Expr} : PT X e (TTf X.K ct fun _ => none) := ⟨fun _ _ _ _ _ _ ⟨_, _, _, _, _, _, h, _⟩ => by cases h⟩
theorem bot_ok : SOk ct G Sm.bot := ⟨fun _ _ _ _ => failK, fun _ _ _ _ => failP, fun _ _ _ _ => failE, fun _ _ _ _ => failT⟩
theorem rd_of (F : Fac X ct G C) {x : Str} {i : Nat} (h : rdSlot C x = some i) : X.N[i]? = some x ∧ L2.Vis X.env.scope x ∧ (x == ("__debug__" : Str)) = false ∧ (x == ("__classdict__" : Str)) = false := by
  unfold rdSlot at h
  split at h
  · rename_i hc
    simp only [Bool.and_eq_true, Bool.not_eq_true', isDunder, Bool.or_eq_false_iff, decide_eq_false_iff_not] at hc
    refine ⟨by rw [F.N]; exact ix_of h, ?_, by simpa using hc.2.1.1, by simpa using hc.2.1.2⟩
    unfold L2.Vis
    rw [F.sc]
    have hv := hc.1
    unfold vis at hv
    split at hv <;> first | (rename_i z; rw [z]; simp) | cases hv
  · cases h
theorem wr_of (F : Fac X ct G C) {x : Str} {i : Nat} (h : wrSlot C x = some i) : X.N[i]? = some x ∧ L2.Loc X.env.scope x ∧ (X.fn x = true ∨ X.env.scope.names.lookup x = some .local) := by
  unfold wrSlot at h
  split at h
  · rename_i hl
    exact ⟨by rw [F.N]; exact ix_of h, .inl (by rw [F.sc]; exact hl), .inr (by rw [F.sc]; exact hl)⟩
  · rename_i hl
    split at h
    · rename_i hf
      exact ⟨by rw [F.N]; exact ix_of h, .inr (by rw [F.sc]; exact hl), .inl (by rw [F.fn]; exact hf)⟩
    · cases h
  · cases h
theorem gl_of (F : Fac X ct G C) {x : Str} (h : glob C x = true) : Gl X x ∧ (x == ("__debug__" : Str)) = false ∧ x ≠ ("__name__" : Str) := by
  unfold glob at h
  simp only [Bool.and_eq_true, Bool.not_eq_true', isDunder, Bool.or_eq_false_iff, decide_eq_false_iff_not] at h
  refine ⟨?_, by simpa using h.2.1.1, h.2.2⟩
  have hg := h.1
  unfold isGl at hg
  unfold L2.Gl
  show X.env.scope.names.lookup x = _
  rw [F.sc]
  split at hg
  · assumption
  · cases hg
theorem ixlt : IxR X (fun x y H Q => L2.rIxL X.K x y H Q ∨ L2.rIxT X.K x y H Q) := by
  intro ea eb pins s σ H x y v u Q I rx ry h hsub
  rcases h with h | h
  · exact L2.ix_list ea eb pins s σ H x y v u Q I rx ry h hsub
  · exact L2.ix_tup ea eb pins s σ H x y v u Q I rx ry h hsub
theorem c_cst {K : PySem.W.Frag} {c : D} {v : V} (hr : ∀ B, RepD K ct B c v) {σ : L2.St} {H : Hp} {Q : VK} (h : TKf K ct (fun _ => some (.val c)) σ H Q) : L2.tC v σ H Q := by
  obtain ⟨B, F, τ, st, pv, e, q⟩ := h
  cases e
  exact q v (hr B)
theorem c_p {K : PySem.W.Frag} {c : D} {v : V} (hr : ∀ B, RepD K ct B c v) {σ : L2.St} {H : Hp} {Q : VK} (h : TPf K ct (pC c) σ H Q) : L2.tC v σ H Q := by
  obtain ⟨B, F, τ, st, pv, e, q⟩ := h
  cases e
  exact q v (hr B)
theorem ok_k (O : SOk ct G S) (F : Fac X ct G C) (e : Expr) : PE X e (TKf X.K ct (stK G S C e)) := by
  cases e with
  | Name x p =>
    simp only [stK]
    split
    · rename_i i hi
      obtain ⟨h1, h2, h3, h4⟩ := rd_of F hi
      exact PEw (L2.pe_var h1 h2 h3 h4) fun _ _ _ h => k_var h
    · split
      · rename_i hg
        obtain ⟨g1, g2, g3⟩ := gl_of F hg
        split
        · rename_i c hc
          obtain ⟨t, ht⟩ := F.w.cst x c hc
          exact PEw (L2.pe_glob g1 ht (v := .int c) ⟨t, rfl⟩ g2) fun _ _ _ h => c_cst (fun B => rep_int) h
        · exact failK
      · exact failK
  | Attribute o f p =>
    simp only [stK]
    split
    · rename_i hb
      exact PEw (L2.pe_fld (O.k X C F o) (base_of hb)) fun _ _ _ h => k_fld h
    · exact failK
  | Subscript o i p =>
    simp only [stK]
    split
    · rename_i hb
      exact PEw (L2.pe_ix ixlt (O.k X C F o) (O.p X C F i) (plain_of hb)) fun _ _ _ h => k_idx h
    · exact failK
  | _ => exact failK
theorem pe_con {c : Const} {d : D} {j : Nat} {pos : Pos} (h : conD c = some d) : PE X (.Constant c j pos) (TPf X.K ct (pC d)) := by
  cases c with
  | int i => cases h; exact PEw L2.pe_int fun _ _ _ h => c_p (fun B => rep_int) h
  | bool b => cases h; exact PEw L2.pe_bl fun _ _ _ h => c_p (fun B => rep_bl) h
  | none => cases h; exact PEw L2.pe_non fun _ _ _ h => c_p (fun B => rep_non) h
  | str s => cases h; exact PEw L2.pe_str fun _ _ _ h => c_p (v := .str s) (fun B => by unfold RepD; rfl) h
  | _ => cases h
theorem blt_free (F : Fac X ct G C) {b : String} (h : b ∈ ["len", "list", "tuple", "sum", "min", "max", "sorted", "int", "abs", "isinstance", "set", "range", "enumerate", "reversed", "zip", "bool", "str"]) : X.mg (Str.ofString b) = none := F.w.free b h
theorem ok_p (O : SOk ct G S) (F : Fac X ct G C) (e : Expr) : PE X e (TPf X.K ct (stP G S C e)) := by
  cases e with
  | Constant c j pos =>
    simp only [stP]
    split
    · rename_i d hd
      exact pe_con hd
    · exact failP
  | BinOp a op b pos =>
    simp only [stP]
    exact PEw (L2.pe_op (opr_bin op) (O.p X C F a) (O.p X C F b)) fun _ _ _ h => p_bin h
  | UnaryOp op a pos =>
    cases op with
    | USub => simp only [stP]; exact PEw (L2.pe_un L2.un_neg (O.p X C F a)) fun _ _ _ h => p_neg h
    | _ => exact failP
  | Name x p => simp only [stP]; exact PEw (O.k X C F _) fun _ _ _ h => p_of h
  | Attribute o f p => simp only [stP]; exact PEw (O.k X C F _) fun _ _ _ h => p_of h
  | Subscript o i p => simp only [stP]; exact PEw (O.k X C F _) fun _ _ _ h => p_of h
  | Call f es kws pos =>
    unfold stP
    split
    all_goals first | exact failP | skip
    all_goals rename_i heq
    all_goals try cases heq
    split
    · rename_i hg
      simp only [Bool.and_eq_true, decide_eq_true_eq] at hg
      obtain ⟨⟨hg, rfl⟩, hok⟩ := hg
      obtain ⟨g1, g2, g3⟩ := gl_of F hg
      exact PEw (L2.pe_callB L2.call_len_seq g1 (blt_free F (b := "len") (by simp)) boot_len (L2.pa_cons (O.k X C F _) L2.pa_nil (star_of hok)) g3 g2 (star_of hok) rfl) fun _ _ _ h => p_len h
    · exact failP
  | _ => exact failP
end
end Ev
set_option Elab.async false
set_option linter.all false
set_option maxRecDepth 100000
set_option maxHeartbeats 1000000
/-! .. values and tests. -/
namespace Ev
open PySem PySem.Spec PyProof.Rows PySem.Calls
open L2 (V HO Hp SqL SqT Same upd upd_same upd_ne Cx PE PT PA PI PG PS PSs PW PO Ends It Inv RelV Vals VK Gl TI XK Sp CXT FnOk Room Binds Passes Meth Cls Mk CX0 FnScope OpR CallR IxR PlainIx)

section
variable {X : Cx} {ct : Str → Option Addr} {G : Gt} {C : Cn} {S : Sm}
theorem rFn_mono {f g : List D → Option M} (h : ∀ ds m, f ds = some m → g ds = some m) {K : PySem.W.Frag} {vs : List V} {H : Hp} {Q : VK} (q : rFn K ct f vs H Q) : rFn K ct g vs H Q := by
  obtain ⟨B, ds, m, sb, hd, e, q⟩ := q
  exact ⟨B, ds, m, sb, hd, h _ _ e, q⟩
theorem call_mono {v : Value} {r r' : List V → Hp → VK → Prop} (h : CallR X v r) (m : ∀ vs H Q, r' vs H Q → r vs H Q) : CallR X v r' := fun pins s σ H vs us Q I rv q => h pins s σ H vs us Q I rv (m _ _ _ q)
/-- the built-in functions of one sequence -/
theorem seq_call (F : Fac X ct G C) {f : Str} {g : D → Option M} (h : seqF f = some g) : ∃ v, bootBuiltins f = some v ∧ CallR X v (rFn X.K ct (one g)) ∧ X.mg f = none ∧ ((∃ s, v = .builtin s) ∨ ∃ s, v = .type s) := by
  have o1 : ∀ {m : D → Option M} {n : List D → Option M}, (∀ x, n [x] = m x) → ∀ ds z, one m ds = some z → n ds = some z := by
    intro m n hmn ds z hz
    unfold one at hz
    split at hz
    · rw [hmn]; exact hz
    · cases hz
  unfold seqF at h
  split at h
  · rename_i e; subst e; cases h
    exact ⟨_, boot_len, cr_len, blt_free F (b := "len") (by simp), .inl ⟨_, rfl⟩⟩
  · split at h
    · rename_i e; subst e; cases h
      exact ⟨_, PyProof.Rows.boot_list, cr_list, blt_free F (b := "list") (by simp), .inr ⟨_, rfl⟩⟩
    · split at h
      · rename_i e; subst e; cases h
        exact ⟨_, PyProof.Rows.boot_tuple, cr_tuple, blt_free F (b := "tuple") (by simp), .inr ⟨_, rfl⟩⟩
      · split at h
        · rename_i e; subst e; cases h
          exact ⟨_, PyProof.Rows.boot_sum, cr_sum F.calm, blt_free F (b := "sum") (by simp), .inl ⟨_, rfl⟩⟩
        · split at h
          · rename_i e; subst e; cases h
            exact ⟨_, PyProof.Rows.boot_min, call_mono (cr_min F.calm F.w.un) fun _ _ _ q => rFn_mono (o1 fun x => rfl) q, blt_free F (b := "min") (by simp), .inl ⟨_, rfl⟩⟩
          · split at h
            · rename_i e; subst e; cases h
              exact ⟨_, PyProof.Rows.boot_max, call_mono (cr_max F.calm F.w.un) fun _ _ _ q => rFn_mono (o1 fun x => rfl) q, blt_free F (b := "max") (by simp), .inl ⟨_, rfl⟩⟩
            · split at h
              · rename_i e; subst e; cases h
                exact ⟨_, PyProof.Rows.boot_sorted, cr_sorted F.w.un, blt_free F (b := "sorted") (by simp), .inl ⟨_, rfl⟩⟩
              · cases h
/-- a call of a built-in function or type -/
theorem pe_blt {f : Str} {v : Value} {r : List V → Hp → VK → Prop} {p pos : Pos} {e : Expr} {es : List Expr} {t : L2.TA} (hv : bootBuiltins f = some v) (hc : CallR X v r) (hm : X.mg f = none) (hk : (∃ s, v = .builtin s) ∨ ∃ s, v = .type s) (g1 : Gl X f) (g2 : (f == ("__debug__" : Str)) = false) (g3 : f ≠ ("__name__" : Str))
    (hok : (e :: es).all okX = true) (ha : PA X (e :: es) t) : PE X (.Call (.Name f p) (e :: es) [] pos) (L2.tCB r t) := by
  simp only [List.all_cons, Bool.and_eq_true] at hok
  rcases hk with ⟨s, rfl⟩ | ⟨s, rfl⟩
  · exact L2.pe_callB hc g1 hm hv ha g3 g2 (star_of hok.1) (star_any hok.2)
  · exact L2.pe_callTy hc g1 hm hv ha g3 g2 (star_of hok.1) (star_any hok.2)
theorem pa_of (O : SOk ct G S) (F : Fac X ct G C) : ∀ {es : List Expr}, es.all okX = true → PA X es (TAf X.K ct (es.map (S.e C)))
  | [], _ => PAw L2.pa_nil fun _ _ _ h => a_nil h
  | e :: es, h => by
    simp only [List.all_cons, Bool.and_eq_true] at h
    exact PAw (L2.pa_cons (O.e X C F e) (pa_of O F h.2) (star_of h.1)) fun _ _ _ q => a_cons q
theorem pq_of (O : SOk ct G S) (F : Fac X ct G C) {a : Expr} (h : okX a = true) : PA X [a] (TQf X.K ct [S.p C a]) :=
  PAw (L2.pa_cons (O.p X C F a) L2.pa_nil (star_of h)) fun σ H Q q => by
    obtain ⟨B, F, τ, st, x, hx, k⟩ := q_cons q
    exact ⟨B, F, τ, st, x, hx, fun v hv => q_nil (k v hv)⟩
theorem nm_of {e : Expr} {f : Str} {es : List Expr} (h : isNm e f = some es) : ∃ p pos, e = .Call (.Name f p) es [] pos := by
  unfold isNm at h
  split at h
  · split at h
    · rename_i e1
      subst e1
      cases h
      exact ⟨_, _, rfl⟩
    · cases h
  · cases h
theorem path_k : True := trivial
theorem ok_seq (O : SOk ct G S) (F : Fac X ct G C) {f : Str} {g : D → Option M} {a : Expr} {p pos : Pos} (hs : seqF f = some g) (hg : glob C f = true) (hok : okX a = true) : PE X (.Call (.Name f p) [a] [] pos) (TEf X.K ct (stSeq S C f g a)) := by
  obtain ⟨g1, g2, g3⟩ := gl_of F hg
  obtain ⟨v, hv, hc, hm, hk⟩ := seq_call F hs
  have okl : ([a] : List Expr).all okX = true := by simp [hok]
  unfold stSeq
  split
  · rename_i h
    obtain ⟨rfl, _⟩ := h
    exact PEw (L2.pe_callB L2.call_len_seq g1 (blt_free F (b := "len") (by simp)) boot_len (L2.pa_cons (O.k X C F _) L2.pa_nil (star_of hok)) g3 g2 (star_of hok) rfl) fun _ _ _ h => p_len (e_pure h)
  · split
    · rename_i b hb
      split
      · rename_i h
        obtain ⟨rfl, h2, h3⟩ := h
        obtain ⟨p2, pos2, rfl⟩ := nm_of hb
        obtain ⟨q1, q2, q3⟩ := gl_of F h2
        have st2 : starEach [b] X.env = (false, eval b X.env) :: starEach [] X.env := star_of h3
        split
        · exact PEw (pe_lenSet g1 (blt_free F (b := "len") (by simp)) q1 (blt_free F (b := "set") (by simp)) (O.k X C F b) F.calm st2) fun _ _ _ h => e_lenSetK h
        · exact PEw (pe_lenSet g1 (blt_free F (b := "len") (by simp)) q1 (blt_free F (b := "set") (by simp)) (O.e X C F b) F.calm st2) fun _ _ _ h => e_lenSet h
      · exact failE
    · exact failE
    · split
      · rename_i es hes
        split
        · rename_i h
          obtain ⟨rfl, h2, h3, h4⟩ := h
          obtain ⟨p2, pos2, rfl⟩ := nm_of hes
          obtain ⟨q1, q2, q3⟩ := gl_of F h2
          have na : starEach [Expr.Call (.Name "range" p2) es [] pos2] X.env = (false, eval (Expr.Call (.Name "range" p2) es [] pos2) X.env) :: starEach [] X.env := star_of rfl
          match es, h3, h4 with
          | [x], h3, _ =>
            simp only [List.all_cons, List.all_nil, Bool.and_true] at h3
            exact PEw (L2.pe_listRg F.calm g1 (blt_free F (b := "list") (by simp)) (L2.prg_1 q1 (blt_free F (b := "range") (by simp)) (O.e X C F x) (star_of h3)) na) fun _ _ _ h => e_lrg1 h
          | [x, y], h3, _ =>
            simp only [List.all_cons, List.all_nil, Bool.and_true, Bool.and_eq_true] at h3
            exact PEw (L2.pe_listRg F.calm g1 (blt_free F (b := "list") (by simp)) (L2.prg_2 q1 (blt_free F (b := "range") (by simp)) (O.e X C F x) (O.e X C F y) (star_of h3.1) (star_of h3.2) (star_any (es := [y]) (by simp [h3.2]))) na) fun _ _ _ h => e_lrg2 h
          | [], _, h4 => simp at h4
          | _ :: _ :: _ :: _, _, h4 => simp at h4
        · exact failE
      · split
        · exact PEw (pe_blt hv hc hm hk g1 g2 g3 okl (L2.pa_cons (O.k X C F a) L2.pa_nil (star_of hok))) fun _ _ _ h => e_bK h
        · exact PEw (pe_blt hv hc hm hk g1 g2 g3 okl (pa_of O F okl)) fun _ _ _ h => e_bV h
theorem ty_of (F : Fac X ct G C) {T : Str} {t : String} (h : tyN T = some t) (hg : glob C T = true) {p : Pos} : PE X (.Name T p) (L2.tC (.ty t)) := by
  obtain ⟨g1, g2, g3⟩ := gl_of F hg
  unfold tyN at h
  split at h
  · rename_i e; subst e; cases h; exact L2.pe_bltn g1 (blt_free F (b := "int") (by simp)) (PyProof.Rows.boot_int) rfl g3 g2
  · split at h
    · rename_i e; subst e; cases h; exact L2.pe_bltn g1 (blt_free F (b := "bool") (by simp)) (PyProof.Rows.boot_bool) rfl g3 g2
    · split at h
      · rename_i e; subst e; cases h; exact L2.pe_bltn g1 (blt_free F (b := "str") (by simp)) (PyProof.Rows.boot_str) rfl g3 g2
      · split at h
        · rename_i e; subst e; cases h; exact L2.pe_bltn g1 (blt_free F (b := "tuple") (by simp)) (PyProof.Rows.boot_tuple) rfl g3 g2
        · split at h
          · rename_i e; subst e; cases h; exact L2.pe_bltn g1 (blt_free F (b := "list") (by simp)) (PyProof.Rows.boot_list) rfl g3 g2
          · cases h
theorem ok_blt (O : SOk ct G S) (F : Fac X ct G C) {f : Str} {es : List Expr} {p pos : Pos} (hg : glob C f = true) : PE X (.Call (.Name f p) es [] pos) (TEf X.K ct (stBlt S C f es)) := by
  obtain ⟨g1, g2, g3⟩ := gl_of F hg
  unfold stBlt
  split
  · rename_i a
    split
    · exact failE
    · rename_i hok
      have hok : okX a = true := by simpa using hok
      have okl : ([a] : List Expr).all okX = true := by simp [hok]
      split
      · rename_i g hs
        exact ok_seq O F hs hg hok
      · split
        · rename_i e; subst e
          exact PEw (pe_blt PyProof.Rows.boot_int cr_int (blt_free F (b := "int") (by simp)) (.inr ⟨_, rfl⟩) g1 g2 g3 okl (pa_of O F okl)) fun _ _ _ h => e_bV h
        · split
          · rename_i e; subst e
            exact PEw (pe_blt PyProof.Rows.boot_abs cr_abs (blt_free F (b := "abs") (by simp)) (.inl ⟨_, rfl⟩) g1 g2 g3 okl (pa_of O F okl)) fun _ _ _ h => e_bV h
          · exact failE
  · rename_i a b
    split
    · exact failE
    · rename_i hok
      have hok : okX a = true ∧ okX b = true := by simpa using hok
      have okl : ([a, b] : List Expr).all okX = true := by simp [hok]
      split
      · rename_i e; subst e
        split
        · rename_i T q
          split
          · rename_i hT
            split
            · rename_i t ht
              exact PEw (L2.pe_callB L2.call_isi g1 (blt_free F (b := "isinstance") (by simp)) PyProof.Rows.boot_isinstance (L2.pa_cons (O.e X C F a) (L2.pa_cons (ty_of F ht hT) L2.pa_nil (star_of hok.2)) (star_of hok.1)) g3 g2 (star_of hok.1) (star_any (by simp [hok.2]))) fun _ _ _ h => e_isi h
            · exact failE
          · exact failE
        · rename_i T q1 U q2 kk q3
          split
          · rename_i hTU
            simp only [Bool.and_eq_true] at hTU
            split
            · rename_i t u ht hu
              exact PEw (L2.pe_callB L2.call_isiT g1 (blt_free F (b := "isinstance") (by simp)) PyProof.Rows.boot_isinstance (L2.pa_cons (O.e X C F a) (L2.pa_cons (L2.pe_tup (L2.pa_cons (ty_of F ht hTU.1) (L2.pa_cons (ty_of F hu hTU.2) L2.pa_nil (star_of rfl)) (star_of rfl))) L2.pa_nil (star_of hok.2)) (star_of hok.1)) g3 g2 (star_of hok.1) (star_any (by simp [hok.2]))) fun _ _ _ h => e_isiT h
            · exact failE
          · exact failE
        · exact failE
      · split
        · rename_i e; subst e
          exact PEw (pe_blt PyProof.Rows.boot_min (cr_min F.calm F.w.un) (blt_free F (b := "min") (by simp)) (.inl ⟨_, rfl⟩) g1 g2 g3 okl (pa_of O F okl)) fun _ _ _ h => e_bV h
        · split
          · rename_i e; subst e
            exact PEw (pe_blt PyProof.Rows.boot_max (cr_max F.calm F.w.un) (blt_free F (b := "max") (by simp)) (.inl ⟨_, rfl⟩) g1 g2 g3 okl (pa_of O F okl)) fun _ _ _ h => e_bV h
          · exact failE
  · exact failE
end
end Ev
set_option Elab.async false
set_option linter.all false
set_option maxRecDepth 100000
set_option maxHeartbeats 1000000
/-! .. calls, what is walked, comprehensions, all values, tests. -/
namespace Ev
open PySem PySem.Spec PyProof.Rows PySem.Calls
open L2 (V HO Hp SqL SqT Same upd upd_same upd_ne Cx PE PT PA PI PG PS PSs PW PO PGs PTs Ends It Inv RelV Vals VK Gl TI XK Sp CXT FnOk Room Binds Passes Meth Cls Mk CX0 E0 FnScope OpR CallR IxR PlainIx)

section
variable {X : Cx} {ct : Str → Option Addr} {G : Gt} {C : Cn} {S : Sm}
theorem failA {e : Expr} : PE X e (TVf X.K ct (aV nil1)) := ⟨fun _ _ _ _ _ _ ⟨_, _, _, _, _, _, h, _⟩ => by simp [aV, nil1] at h⟩
theorem pv_of (O : SOk ct G S) (F : Fac X ct G C) (e : Expr) : PE X e (TVf X.K ct (aV (S.e C e))) := PEw (O.e X C F e) fun _ _ _ h => v_val h
theorem arg_of (O : SOk ct G S) (F : Fac X ct G C) (b : Bool) (e : Expr) : PE X e (TVf X.K ct (argA S C b e)) := by
  unfold argA
  split
  · rename_i x p
    split
    · rename_i i hi
      obtain ⟨h1, h2, h3, h4⟩ := rd_of F hi
      exact PEw (L2.pe_var h1 h2 h3 h4) fun _ _ _ h => v_lend h
    · exact failA
  · exact pv_of O F e
theorem args_of (O : SOk ct G S) (F : Fac X ct G C) (mu : List Nat) : ∀ {es : List Expr} (j : Nat), es.all okX = true → PA X es (TVs X.K ct (argAs S C mu j es))
  | [], j, _ => PAw L2.pa_nil fun _ _ _ h => vs_nil h
  | e :: es, j, h => by
    simp only [List.all_cons, Bool.and_eq_true] at h
    exact PAw (L2.pa_cons (arg_of O F _ e) (args_of O F mu (j + 1) h.2) (star_of h.1)) fun _ _ _ q => vs_cons q
theorem args_len {mu : List Nat} : ∀ {es : List Expr} {j : Nat}, (argAs S C mu j es).length = es.length
  | [], _ => rfl
  | e :: es, j => by simp [argAs, args_len (es := es)]
theorem argv_of (O : SOk ct G S) (F : Fac X ct G C) : ∀ {es : List Expr}, es.all okX = true → PA X es (TVs X.K ct (es.map fun e => aV (S.e C e)))
  | [], _ => PAw L2.pa_nil fun _ _ _ h => vs_nil h
  | e :: es, h => by
    simp only [List.all_cons, Bool.and_eq_true] at h
    exact PAw (L2.pa_cons (pv_of O F e) (argv_of O F h.2) (star_of h.1)) fun _ _ _ q => vs_cons q
theorem ok_fn (O : SOk ct G S) (F : Fac X ct G C) {x : Str} {i : FnI} {es : List Expr} {p pos : Pos} (hg : glob C x = true) (hi : G.fns x = some i) : PE X (.Call (.Name x p) es [] pos) (TEf X.K ct (callE S C i es)) := by
  obtain ⟨g1, g2, g3⟩ := gl_of F hg
  obtain ⟨k, f, fd, ps, hm, hk, hF, hr, hl, hb⟩ := F.w.fns x i hi
  unfold callE
  split
  · rename_i hc
    simp only [Bool.and_eq_true, decide_eq_true_eq] at hc
    obtain ⟨ds, hv, hbd⟩ := hb es.length hc.2
    cases es with
    | nil =>
      exact PEw (L2.pe_call0 hF hr g1 hm hk hbd hv L2.pass0 g2) fun _ _ _ h => vs_nil (e_call (by simpa [argAs] using hc.2) h)
    | cons e es =>
      have hc1 := hc.1
      simp only [List.all_cons, Bool.and_eq_true] at hc1
      exact PEw (L2.pe_call hF hr g1 hm hk hbd hv L2.pass0 (args_of O F i.mu 0 hc.1) g2 (star_of hc1.1) (star_any hc1.2)) fun _ _ _ h => e_call (by rw [args_len]; exact hc.2) h
  · exact failE
theorem ok_mk (O : SOk ct G S) (F : Fac X ct G C) {x : Str} {i : FnI} {es : List Expr} {p pos : Pos} (hg : glob C x = true) (hi : G.mks x = some i) : PE X (.Call (.Name x p) es [] pos) (TEf X.K ct (makeE S C x i es)) := by
  obtain ⟨g1, g2, g3⟩ := gl_of F hg
  obtain ⟨k, Cl, f, fd, ps, hm, hct, hcl, hmk, hF, hr, hl, hb⟩ := F.w.mks x i hi
  unfold makeE
  split
  · rename_i hc
    simp only [Bool.and_eq_true, decide_eq_true_eq] at hc
    obtain ⟨⟨hc1, hc2⟩, hc3⟩ := hc
    obtain ⟨ds, hv, hbd⟩ := hb (es.length + 1) hc3
    rw [hc2, ← hc3] at hF
    cases es with
    | nil =>
      exact PEw (L2.pe_make0 hmk hF hr g1 hm hbd hv L2.pass0 g2) fun _ _ _ h => vs_nil (e_make (as := []) hct hcl h)
    | cons e es =>
      have hc4 := hc1
      simp only [List.all_cons, Bool.and_eq_true] at hc4
      refine PEw (L2.pe_make hmk hF hr g1 hm hbd hv L2.pass0 (argv_of O F hc1) g2 (star_of hc4.1) (star_any hc4.2)) fun _ _ _ h => ?_
      have := e_make (as := (e :: es).map fun e => aV (S.e C e)) (E := E0) hct hcl h
      rw [List.length_map] at this
      exact this
  · exact failE
theorem form_of {o : Expr} {m : Str} {apos pos : Pos} {es : List Expr} {env : PySem.Env} (hb : okB o = true) (hes : es.all okX = true) (hl : (apos.endLine == pos.line) = true) (hn : es.length < 20) :
    eval (.Call (.Attribute o m apos) es [] pos) env = (do
      let ov ← eval o env
      standAt apos.atName
      let (f, first) ← holding [ov] (getMethod ov m (do return (← importBound o env).getD true))
      callWith pos f first (backTo pos (starEach es env)) (backToKw pos (keywordEach [] env))) := by
  have few : methodCallForm (es.length + ([] : List Keyword).length) (backTo pos (starEach es env)) (backToKw pos (keywordEach [] env)) = true := by
    unfold methodCallForm
    have h1 : (backTo pos (starEach es env)).all (fun x => !x.1) = true := by
      have := star_any (pos := pos) (env := env) hes
      rw [List.all_eq_not_any_not]
      simpa using this
    rw [h1]
    simp [keywordEach, backToKw]
    omega
  rw [arm_eval_Call, base_of hb]
  unfold methodCall calleeOf methodCallPos
  rw [few, hl]
  simp only [Bool.not_true, Bool.false_or, if_true, pure_bind]
theorem meth_cand (F : Fac X ct G C) {m : Str} {n : Nat} : ∀ c t Cl, G.meth m n c = some t → ct c = some Cl → Cand X CX0 m Cl (spR X.K ct t.r t.mu (n + 1 + t.dn.length)) (t.dn.map V.int) := by
  intro c t Cl h hC
  unfold Gt.meth at h
  split at h
  · rename_i i hi
    split at h
    · rename_i hn
      cases h
      obtain ⟨k, f, fd, ps, hm, hF, hr, hl, hb⟩ := F.w.mts m c i Cl hi hC
      obtain ⟨ds, hv, hbd⟩ := hb (n + 1) hn
      simp only
      rw [hn]
      exact ⟨k, f, fd, ps, ds, hm, hF, hr, hbd, hv⟩
    · cases h
  · cases h
theorem ok_call (O : SOk ct G S) (F : Fac X ct G C) (f : Expr) (es : List Expr) (pos : Pos) : PE X (.Call f es [] pos) (TEf X.K ct (stCall G S C f es pos)) := by
  unfold stCall
  split
  · rename_i x p
    split
    · rename_i hg
      split
      · rename_i i hi
        exact ok_fn O F hg hi
      · split
        · rename_i i hi
          exact ok_mk O F hg hi
        · split
          · exact ok_blt O F hg
          · exact failE
    · exact failE
  · rename_i o m apos
    split
    · rename_i hc
      simp only [Bool.and_eq_true, decide_eq_true_eq] at hc
      obtain ⟨⟨⟨⟨h1, h2⟩, h3⟩, h4⟩, h5⟩ := hc
      split
      · rename_i hm
        split
        · rename_i a
          have ha : okX a = true := by simpa using h3
          have hmm : (if m = ("index" : Str) then "index" else "count") = "index" ∨ (if m = ("index" : Str) then "index" else "count") = "count" := by split <;> simp
          have hme : m = Str.ofString (if m = ("index" : Str) then "index" else "count") := by
            split
            · assumption
            · rename_i z
              exact hm.resolve_left z
          have gen : ∀ mm : String, (mm = "index" ∨ mm = "count") → m = Str.ofString mm → PE X (.Call (.Attribute o m apos) [a] [] pos) (TEf X.K ct (if isPath C o && isP C a then mK mm (S.k C o) [S.p C a] else mV mm (S.e C o) [S.e C a])) := by
            intro mm hm2 he2
            subst he2
            split
            · exact PEw (pe_mth hm2 F.w.un (O.k X C F o) (pq_of O F ha) (base_of h1) h4 (star_one ha)) fun _ _ _ h => e_mK h
            · exact PEw (pe_mth hm2 F.w.un (O.e X C F o) (pa_of O F h3) (base_of h1) h4 (star_one ha)) fun _ _ _ h => e_mV h
          exact gen _ hmm hme
        · exact failE
      · cases es with
        | nil =>
          refine PEw (pe_methU0 (CX := CX0) (E := E0) (arg_of O F true o) L2.pass0 (form_of h1 h3 h4 h5)) fun σ H Q h => ?_
          obtain ⟨B, F', τ, st, av, e', ha, q⟩ := e_meth (CX := CX0) (E := E0) (as := []) (meth_cand F) h
          exact ⟨B, F', τ, st, av, e', ha, fun v H' B' am τ' a => by
            obtain ⟨Cl, p, dx, fs, sp, dvs, z1, z2, z3, z4, z5, z6⟩ := q v H' B' am τ' a
            exact ⟨Cl, p, dx, fs, sp, dvs, z1, z2, z3, z4, z5, vs_nil z6⟩⟩
        | cons e es =>
          have h6 := h3
          simp only [List.all_cons, Bool.and_eq_true] at h6
          refine PEw (pe_methU (CX := CX0) (E := E0) (arg_of O F true o) L2.pass0 (argv_of O F h3) (star_of h6.1) (star_any h6.2) (form_of h1 h3 h4 h5)) fun σ H Q h => ?_
          refine e_meth (CX := CX0) (E := E0) (as := (e :: es).map fun e => aV (S.e C e)) ?_ h
          rw [List.length_map]
          exact meth_cand F
    · exact failE
  · exact failE

/-! ### targets, what is walked -/
mutual
theorem ok_g (F : Fac X ct G C) : ∀ {tg : Expr} {g : Tg}, stG C tg = some g → PG X tg (TGf X.K ct (isTup tg) g)
  | .Name x p, g, h => by
    simp only [stG] at h
    split at h
    · rename_i i hi
      cases h
      obtain ⟨h1, h2, h3⟩ := wr_of F hi
      exact ⟨fun pins s σ H v u Q I r q => (L2.pg_name F.nd h1 h2 h3).run pins s σ H v u Q I r (g_name q)⟩
    · cases h
  | .Tuple es k p, g, h => by
    simp only [stG] at h
    split at h
    · rename_i gs hgs
      cases h
      obtain ⟨a1, a2, a3⟩ := ok_gs F hgs
      exact ⟨fun pins s σ H v u Q I r q => (L2.pg_tup F.calm a1 a2 a3).run pins s σ H v u Q I r (g_tup q)⟩
    · cases h
  | .BoolOp .., _, h => by simp [stG] at h
  | .NamedExpr .., _, h => by simp [stG] at h
  | .BinOp .., _, h => by simp [stG] at h
  | .UnaryOp .., _, h => by simp [stG] at h
  | .Lambda .., _, h => by simp [stG] at h
  | .IfExp .., _, h => by simp [stG] at h
  | .Dict .., _, h => by simp [stG] at h
  | .Set .., _, h => by simp [stG] at h
  | .ListComp .., _, h => by simp [stG] at h
  | .SetComp .., _, h => by simp [stG] at h
  | .DictComp .., _, h => by simp [stG] at h
  | .GeneratorExp .., _, h => by simp [stG] at h
  | .Await .., _, h => by simp [stG] at h
  | .Yield .., _, h => by simp [stG] at h
  | .YieldFrom .., _, h => by simp [stG] at h
  | .Compare .., _, h => by simp [stG] at h
  | .Call .., _, h => by simp [stG] at h
  | .FormattedValue .., _, h => by simp [stG] at h
  | .JoinedStr .., _, h => by simp [stG] at h
  | .Constant .., _, h => by simp [stG] at h
  | .Attribute .., _, h => by simp [stG] at h
  | .Subscript .., _, h => by simp [stG] at h
  | .Starred .., _, h => by simp [stG] at h
  | .List .., _, h => by simp [stG] at h
  | .Slice .., _, h => by simp [stG] at h
theorem ok_gs (F : Fac X ct G C) : ∀ {es : List Expr} {gs : List Tg}, stGs C es = some gs → PGs X es (TGsf X.K ct gs) ∧ (assignEach es X.env).length = gs.length ∧ (assignEach es X.env).findIdx? (·.1) = none
  | [], gs, h => by
    simp only [stGs, Option.some.injEq] at h
    subst h
    exact ⟨⟨fun pins s σ H vs us Q I r q => L2.pgs_nil.run pins s σ H vs us Q I r (gs_nil q)⟩, rfl, rfl⟩
  | e :: es, gs, h => by
    simp only [stGs] at h
    split at h
    · rename_i g hg
      split at h
      · rename_i gr hgr
        cases h
        obtain ⟨a1, a2, a3⟩ := ok_gs F hgr
        have a0 := ok_g F hg
        have he : assignEach (e :: es) X.env = (false, assign e X.env) :: assignEach es X.env := by
          cases e <;> first | rfl | (simp [stG] at hg)
        refine ⟨⟨fun pins s σ H vs us Q I r q => (L2.pgs_cons a0 a1 (by rw [he]; rfl)).run pins s σ H vs us Q I r ?_⟩, by rw [he]; simp [a2], by rw [he, List.findIdx?_cons, a3]; rfl⟩
        obtain ⟨v, r', e1, q'⟩ := gs_cons q
        exact ⟨v, r', e1, g_weak q'⟩
      · cases h
    · cases h
end
end
end Ev
set_option Elab.async false
set_option linter.all false
set_option maxRecDepth 100000
set_option maxHeartbeats 1000000
/-! .. what is walked, comprehensions, all values, tests. -/
namespace Ev
open PySem PySem.Spec PyProof.Rows PySem.Calls
open L2 (V HO Hp SqL SqT Same upd upd_same upd_ne Cx PE PT PA PI PG PS PSs PW PO PGs PTs Ends It Inv RelV Vals VK Gl TI XK Sp CXT FnOk Room Binds Passes Meth Cls Mk CX0 E0 FnScope OpR CallR IxR PlainIx)

section
variable {X : Cx} {ct : Str → Option Addr} {G : Gt} {C : Cn} {S : Sm}
theorem PIw {tg e : Expr} {t t' : TI} (h : PI X tg e t) (w : ∀ σ H R, t' σ H R → t σ H R) : PI X tg e t' := ⟨fun pins s σ H R I q => h.run pins s σ H R I (w _ _ _ q)⟩
theorem rev_get {xs : List D} {vs : List V} {K : PySem.W.Frag} {B : Hp} (r : RepDs K ct B xs vs) {i : Nat} (hi : i < xs.reverse.length) : ∃ v d, vs[vs.length - 1 - i]? = some v ∧ xs.reverse[i]? = some d ∧ RepD K ct B d v := by
  rw [List.length_reverse] at hi
  have hl := r.length
  obtain ⟨v, h1, h2, h3⟩ := get_of r (i := xs.length - 1 - i) (by omega)
  refine ⟨v, _, by rw [← hl]; exact h1, ?_, h3⟩
  rw [List.getElem?_reverse hi]
  exact h2
theorem w_revL {K : PySem.W.Frag} {B : Hp} {pl : Bool} {xs : List D} {vs : List V} {a : Addr} (r : RepDs K ct B xs vs) (h : SqL K B a vs) : WalkD K ct pl B xs.reverse (L2.Itv K a vs.length) where
  goes := fun i H hi sb => by
    obtain ⟨v, d, h1, _⟩ := rev_get r hi
    have hl := r.length
    rw [List.length_reverse] at hi
    exact ⟨by omega, vs, v, sb.seq h, h1⟩
  stops := fun H sb => by
    show vs.length ≤ _
    rw [List.length_reverse, r.length]
    exact Nat.le_refl _
  yields := fun i H v H' cs B1 hi sb w y => by
    obtain ⟨rfl, y⟩ := y
    obtain ⟨u, d, h1, h2, h3⟩ := rev_get r hi
    have z := y vs ((sb.trans w.sub).seq h)
    rw [h1] at z; cases z
    exact ⟨B1, w, Same.refl _, _, h2, .inl (h3.mono sb)⟩
theorem w_revT {K : PySem.W.Frag} {B : Hp} {pl : Bool} {xs : List D} {vs : List V} {a : Addr} (r : RepDs K ct B xs vs) (h : SqT K B a vs) : WalkD K ct pl B xs.reverse (RT.ItvT K a vs.length) where
  goes := fun i H hi sb => by
    obtain ⟨v, d, h1, _⟩ := rev_get r hi
    have hl := r.length
    rw [List.length_reverse] at hi
    exact ⟨by omega, vs, v, sq_tup sb h, h1⟩
  stops := fun H sb => by
    show vs.length ≤ _
    rw [List.length_reverse, r.length]
    exact Nat.le_refl _
  yields := fun i H v H' cs B1 hi sb w y => by
    obtain ⟨rfl, y⟩ := y
    obtain ⟨u, d, h1, h2, h3⟩ := rev_get r hi
    have z := y vs (sq_tup (sb.trans w.sub) h)
    rw [h1] at z; cases z
    exact ⟨B1, w, Same.refl _, _, h2, .inl (h3.mono sb)⟩
theorem i_rev {K : PySem.W.Frag} {pl : Bool} {σ : L2.St} {H : Hp} {c : SE} {R : It → Hp → Prop} (h : TIf K ct pl (iRev c) σ H R) : RT.iRevA K (TEf K ct c) σ H R := by
  obtain ⟨B, F, τ, st, xs, e', e, q⟩ := h
  unfold iRev at e
  split at e
  · rename_i m e1 hf
    split at e
    · rename_i ys hd
      cases e
      refine e_one st hf fun v H1 B1 τ1 st1 sb1 ee rv => ?_
      obtain ⟨a, vs, rfl, r, hs⟩ := rd_seq rv hd
      refine ⟨a, vs, rfl, ?_⟩
      rcases hs with hs | hs
      · exact .inl ⟨st1.wf.sub.seq hs, q _ H1 B1 τ1 ⟨st1, sb1, ee⟩ (w_revL r hs)⟩
      · exact .inr ⟨sq_tup st1.wf.sub hs, q _ H1 B1 τ1 ⟨st1, sb1, ee⟩ (w_revT r hs)⟩
    · cases e
  · cases e
theorem zip_get {xs ys : List D} (hl : xs.length = ys.length) {i : Nat} (hi : i < (zipD xs ys).length) : ∃ h1 : i < xs.length, ∃ h2 : i < ys.length, (zipD xs ys)[i]? = some (.tup [xs[i], ys[i]]) := by
  have hz : (zipD xs ys).length = xs.length := by simp [zipD, hl]
  rw [hz] at hi
  refine ⟨hi, by omega, ?_⟩
  unfold zipD
  rw [List.getElem?_map, (List.getElem?_zip_eq_some (z := (xs[i], ys[i]'(by omega)))).mpr ⟨List.getElem?_eq_getElem hi, List.getElem?_eq_getElem (by omega)⟩]
  rfl
theorem w_zipL {K : PySem.W.Frag} {B : Hp} {xs ys : List D} {vs us : List V} {a b : Addr} (hl : xs.length = ys.length) (r : RepDs K ct B xs vs) (r2 : RepDs K ct B ys us) (h : SqL K B a vs) (h2 : SqL K B b us) : WalkD K ct true B (zipD xs ys) (L2.Itz K a b) where
  goes := fun i H hi sb => by
    obtain ⟨i1, i2, _⟩ := zip_get hl hi
    obtain ⟨v, k1, _⟩ := get_of r i1
    obtain ⟨u, k2, _⟩ := get_of r2 i2
    exact ⟨vs, us, v, u, sb.seq h, sb.seq h2, k1, k2⟩
  stops := fun H sb => ⟨vs, us, sb.seq h, sb.seq h2, .inl (by rw [← r.length]; simp [zipD, hl])⟩
  yields := fun i H v H' cs B1 hi sb w y => by
    obtain ⟨i1, i2, hz⟩ := zip_get hl hi
    obtain ⟨v', k1, _, m1⟩ := get_of r i1
    obtain ⟨u', k2, _, m2⟩ := get_of r2 i2
    obtain ⟨T, x, y', rfl, hT, rfl, y1, y2⟩ := y
    have z1 := y1 vs ((sb.trans w.sub).seq h)
    have z2 := y2 us ((sb.trans w.sub).seq h2)
    rw [k1] at z1; cases z1
    rw [k2] at z2; cases z2
    obtain ⟨B2, w2, sb2, ry⟩ := pair_new w hT (m1.mono sb) (m2.mono sb)
    exact ⟨B2, w2, sb2, _, hz, ry⟩
theorem w_zipT {K : PySem.W.Frag} {B : Hp} {xs ys : List D} {vs us : List V} {a b : Addr} (hl : xs.length = ys.length) (r : RepDs K ct B xs vs) (r2 : RepDs K ct B ys us) (h : SqT K B a vs) (h2 : SqT K B b us) : WalkD K ct true B (zipD xs ys) (RZ.ItzT K a b) where
  goes := fun i H hi sb => by
    obtain ⟨i1, i2, _⟩ := zip_get hl hi
    obtain ⟨v, k1, _⟩ := get_of r i1
    obtain ⟨u, k2, _⟩ := get_of r2 i2
    exact ⟨vs, us, v, u, sq_tup sb h, sq_tup sb h2, k1, k2⟩
  stops := fun H sb => ⟨vs, us, sq_tup sb h, sq_tup sb h2, .inl (by rw [← r.length]; simp [zipD, hl])⟩
  yields := fun i H v H' cs B1 hi sb w y => by
    obtain ⟨i1, i2, hz⟩ := zip_get hl hi
    obtain ⟨v', k1, _, m1⟩ := get_of r i1
    obtain ⟨u', k2, _, m2⟩ := get_of r2 i2
    obtain ⟨T, x, y', rfl, hT, rfl, y1, y2⟩ := y
    have z1 := y1 vs (sq_tup (sb.trans w.sub) h)
    have z2 := y2 us (sq_tup (sb.trans w.sub) h2)
    rw [k1] at z1; cases z1
    rw [k2] at z2; cases z2
    obtain ⟨B2, w2, sb2, ry⟩ := pair_new w hT (m1.mono sb) (m2.mono sb)
    exact ⟨B2, w2, sb2, _, hz, ry⟩
theorem i_zip {K : PySem.W.Frag} {σ : L2.St} {H : Hp} {c d : SE} {R : It → Hp → Prop} (h : TIf K ct true (iZip c d) σ H R) : RZ.iZipA K (L2.tCons (TEf K ct c) (L2.tCons (TEf K ct d) L2.tNil)) σ H R := by
  obtain ⟨B, F, τ, st, xs, e', e, q⟩ := h
  unfold iZip at e
  split at e
  · rename_i x e1 hx
    split at e
    · rename_i y e2 hy
      split at e
      · rename_i ys hz
        cases e
        refine e_one (Q := fun v H1 => L2.tCons (TEf K ct d) L2.tNil σ H1 fun vs H2 => _) st hx fun v H1 B1 τ1 st1 sb1 ee1 rv => ?_
        refine e_one (Q := fun u H2 => L2.tNil σ H2 fun vs H3 => _) st1 (by rw [ee1]; exact hy) fun u H2 B2 τ2 st2 sb2 ee2 ru => ?_
        have rv := rv.mono sb2
        unfold zipOk at hz
        split at hz
        · rename_i as bs ha hb
          split at hz
          · rename_i hl
            cases hz
            rw [ha] at rv
            rw [hb] at ru
            obtain ⟨a, vs, rfl, r1, hs1⟩ := rd_seq rv rfl
            obtain ⟨b, us, rfl, r2, hs2⟩ := rd_seq ru rfl
            unfold RepD at rv ru
            obtain ⟨a', vs', z, hB1, r1'⟩ := rv
            cases z
            obtain ⟨b', us', z, hB2, r2'⟩ := ru
            cases z
            exact ⟨a, b, vs', us', rfl, .inl ⟨st2.wf.sub.seq (SqL.of hB1), st2.wf.sub.seq (SqL.of hB2), q _ H2 B2 τ2 ⟨st2, sb1.trans sb2, ee2⟩ (w_zipL hl r1' r2' (SqL.of hB1) (SqL.of hB2))⟩⟩
          · cases hz
        · rename_i as bs ha hb
          split at hz
          · rename_i hl
            cases hz
            rw [ha] at rv
            rw [hb] at ru
            unfold RepD at rv ru
            obtain ⟨a', vs', rfl, hB1, r1'⟩ := rv
            obtain ⟨b', us', rfl, hB2, r2'⟩ := ru
            exact ⟨a', b', vs', us', rfl, .inr ⟨sq_tup st2.wf.sub hB1.sq, sq_tup st2.wf.sub hB2.sq, q _ H2 B2 τ2 ⟨st2, sb1.trans sb2, ee2⟩ (w_zipT hl r1' r2' hB1.sq hB2.sq)⟩⟩
          · cases hz
        · cases hz
      · cases e
    · cases e
  · cases e
theorem ok_i (O : SOk ct G S) (F : Fac X ct G C) {tg e : Expr} {f : SI} (h : stI S C (isTup tg) e = some f) : PI X tg e (TIf X.K ct (isTup tg) f) ∧ ∀ x, foldedSetIterable e X.env x = pure x := by
  unfold stI at h
  split at h
  · cases h
  · rename_i hok
    have hok : okX e = true := by simpa using hok
    refine ⟨?_, fold_of hok⟩
    split at h
    · rename_i es hes
      split at h
      · rename_i hc
        cases h
        simp only [Bool.and_eq_true, Bool.or_eq_true, decide_eq_true_eq] at hc
        obtain ⟨⟨h1, h2⟩, h3⟩ := hc
        obtain ⟨p, pos, rfl⟩ := nm_of hes
        obtain ⟨q1, q2, q3⟩ := gl_of F h1
        match es, h2, h3 with
        | [x], h2, _ =>
          simp only [List.all_cons, List.all_nil, Bool.and_true] at h2
          exact PIw (L2.pi_range1 q1 (blt_free F (b := "range") (by simp)) (L2.pa_cons (O.e X C F x) L2.pa_nil (star_of h2)) (star_one h2)) fun _ _ _ h => i_rng1 h
        | [x, y], h2, _ =>
          simp only [List.all_cons, List.all_nil, Bool.and_true, Bool.and_eq_true] at h2
          exact PIw (L2.pi_range2 q1 (blt_free F (b := "range") (by simp)) (L2.pa_cons (O.e X C F x) (L2.pa_cons (O.e X C F y) L2.pa_nil (star_of h2.2)) (star_of h2.1)) (by rw [star_of h2.1, star_one h2.2]) (star_one h2.2)) fun _ _ _ h => i_rng2 h
        | [], _, h3 => simp at h3
        | _ :: _ :: _ :: _, _, h3 => simp at h3
      · cases h
    · split at h
      · rename_i es hes
        split at h
        · rename_i a
          split at h
          · rename_i hc
            cases h
            simp only [Bool.and_eq_true] at hc
            obtain ⟨⟨h1, h2⟩, h3⟩ := hc
            obtain ⟨p, pos, rfl⟩ := nm_of hes
            obtain ⟨q1, q2, q3⟩ := gl_of F h1
            rw [h3]
            cases tg with
            | Tuple ts k tp => exact PIw (pi_en q1 (blt_free F (b := "enumerate") (by simp)) (O.e X C F a) (star_of h2)) fun _ _ _ h => i_enum h
            | _ => simp [isTup] at h3
          · cases h
        · cases h
      · split at h
        · rename_i es hes
          split at h
          · rename_i a
            split at h
            · rename_i hc
              cases h
              simp only [Bool.and_eq_true] at hc
              obtain ⟨h1, h2⟩ := hc
              obtain ⟨p, pos, rfl⟩ := nm_of hes
              obtain ⟨q1, q2, q3⟩ := gl_of F h1
              exact PIw (RT.pi_revA q1 (blt_free F (b := "reversed") (by simp)) (O.e X C F a) (star_of h2)) fun _ _ _ h => i_rev h
            · cases h
          · cases h
        · split at h
          · rename_i es hes
            split at h
            · rename_i a b
              split at h
              · rename_i hc
                cases h
                simp only [Bool.and_eq_true] at hc
                obtain ⟨⟨⟨h1, h2⟩, h3⟩, h4⟩ := hc
                obtain ⟨p, pos, rfl⟩ := nm_of hes
                obtain ⟨q1, q2, q3⟩ := gl_of F h1
                rw [h4]
                cases tg with
                | Tuple ts k tp => exact PIw (RZ.pi_zipA q1 (blt_free F (b := "zip") (by simp)) (L2.pa_cons (O.e X C F a) (L2.pa_cons (O.e X C F b) L2.pa_nil (star_of h3)) (star_of h2)) (star_of h2) (star_any (es := [b]) (by simp [h3]))) fun _ _ _ h => i_zip h
                | _ => simp [isTup] at h4
              · cases h
            · cases h
          · cases h
            exact PIw (pi_seq (O.e X C F e)) fun _ _ _ h => i_v h
end
end Ev
set_option Elab.async false
set_option linter.all false
set_option maxRecDepth 100000
set_option maxHeartbeats 1000000
/-! .. comprehensions, all values, tests. -/
namespace Ev
open PySem PySem.Spec PyProof.Rows PySem.Calls
open L2 (V HO Hp SqL SqT Same upd upd_same upd_ne Cx PE PT PA PI PG PS PSs PW PO PGs PTs Ends It Inv RelV Vals VK Gl TI XK Sp CXT FnOk Room Binds Passes Meth Cls Mk CX0 E0 FnScope OpR CallR IxR PlainIx)

section
variable {X : Cx} {ct : Str → Option Addr} {G : Gt} {C : Cn} {S : Sm}
theorem fac_blk (F : Fac X ct G C) {scope : Scope} (hk : scope.kind = .function) (s : Shared) (H : Hp) (c : Addr) (cl : List (Str × Addr)) (fp : List Addr) : Fac (X.blk s H scope (compEnvC scope cl c X.env) fp) ct G (C.blk scope) where
  N := F.N
  sc := by
    show L2.relS scope X.env.scope = L2.relS scope C.sc
    rw [F.sc]
  fn := rfl
  calm := F.calm
  nd := F.nd
  nox := rfl
  kind := hk
  w := F.w
/-- what a comprehension's proof needs -/
structure CompOk (X : Cx) (ct : Str → Option Addr) (elt tg iter : Expr) (ifs : List Expr) (scope : Scope) (f : SE) : Prop where
  ex : ∃ (own : List (Str × Nat)) (it : SI) (g : Tg) (t : ST) (c : SE), f = cComp (own.map (·.2)) it g t c ∧ PI X tg iter (TIf X.K ct (isTup tg) it) ∧ L2.BlkOk X.N X.env.scope scope own ∧ (∀ x, foldedSetIterable iter X.env x = pure x) ∧
    (∀ (s : Shared) (H : Hp) (C : Addr) (cl : List (Str × Addr)) (fp : List Addr), PG (X.blk s H scope (compEnvC scope cl C X.env) fp) tg (TGf X.K ct (isTup tg) g)) ∧
    (∀ (s : Shared) (H : Hp) (C : Addr) (cl : List (Str × Addr)) (fp : List Addr), PTs (X.blk s H scope (compEnvC scope cl C X.env) fp) ifs (TTf X.K ct t)) ∧
    (∀ (s : Shared) (H : Hp) (C : Addr) (cl : List (Str × Addr)) (fp : List Addr), PE (X.blk s H scope (compEnvC scope cl C X.env) fp) elt (TEf X.K ct c))
theorem comp_of (O : SOk ct G S) (F : Fac X ct G C) (elt : Expr) (gs : List Comprehension) (scope : Scope) : stComp S C elt gs scope = nil1 ∨ ∃ tg iter ifs, gs = [⟨tg, iter, ifs, 0⟩] ∧ CompOk X ct elt tg iter ifs scope (stComp S C elt gs scope) := by
  unfold stComp
  split
  · rename_i tg iter ifs
    split
    · rename_i own hown
      split
      · rename_i hb
        have ok0 := L2.blkOk_by hb
        have ok : L2.BlkOk X.N X.env.scope scope own := by rw [F.N, F.sc]; exact ok0
        split
        · rename_i it g hit hg
          obtain ⟨i1, i2⟩ := ok_i O F hit
          split
          · exact .inr ⟨tg, iter, [], rfl, ⟨own, it, g, tYes, _, rfl, i1, ok, i2, fun s H c cl fp => ok_g (fac_blk F ok.kind s H c cl fp) hg, fun s H c cl fp => ⟨fun pins s0 σ H0 Q I q => L2.pts_nil.run pins s0 σ H0 Q I (t_yes q)⟩, fun s H c cl fp => O.e _ _ (fac_blk F ok.kind s H c cl fp) elt⟩⟩
          · rename_i cnd
            exact .inr ⟨tg, iter, [cnd], rfl, ⟨own, it, g, _, _, rfl, i1, ok, i2, fun s H c cl fp => ok_g (fac_blk F ok.kind s H c cl fp) hg, fun s H c cl fp => L2.pts_one (O.t _ _ (fac_blk F ok.kind s H c cl fp) cnd), fun s H c cl fp => O.e _ _ (fac_blk F ok.kind s H c cl fp) elt⟩⟩
          · exact .inl rfl
        · exact .inl rfl
      · exact .inl rfl
    · exact .inl rfl
  · exact .inl rfl
theorem ok_comp (O : SOk ct G S) (F : Fac X ct G C) (elt : Expr) (gs : List Comprehension) (scope : Scope) (pos : Pos) : PE X (.ListComp elt gs scope pos) (TEf X.K ct (stComp S C elt gs scope)) := by
  rcases comp_of O F elt gs scope with h | ⟨tg, iter, ifs, rfl, own, it, g, t, c, e, h1, h2, h3, h4, h5, h6⟩
  · rw [h]; exact failE
  · rw [e]
    exact PEw (L2.pe_lc F.calm F.nd h1 h2 h4 h5 h6 h3) fun _ _ _ q => e_comp q
theorem ok_and (O : SOk ct G S) (F : Fac X ct G C) (pos : Pos) : ∀ es : List Expr, PE X (.BoolOp .And es pos) (TEf X.K ct (andE (es.map (S.e C))))
  | [] => failE
  | [a] => L2.pe_one (O.e X C F a)
  | a :: b :: r => PEw (L2.pe_and (O.e X C F a) (ok_and O F pos (b :: r))) fun _ _ _ h => e_and h
theorem ok_or (O : SOk ct G S) (F : Fac X ct G C) (pos : Pos) : ∀ es : List Expr, PE X (.BoolOp .Or es pos) (TEf X.K ct (orE (es.map (S.e C))))
  | [] => failE
  | [a] => L2.pe_one (O.e X C F a)
  | a :: b :: r => PEw (L2.pe_or (O.e X C F a) (ok_or O F pos (b :: r))) fun _ _ _ h => e_or h
theorem ok_cmp (O : SOk ct G S) (F : Fac X ct G C) {a b : Expr} {op : CmpOp} {pos : Pos} (hb : okX b = true) : PE X (.Compare a [op] [b] pos) (TEf X.K ct (cCmp op (S.e C a) (S.e C b))) :=
  PEw (L2.pe_cmpR (opr_cmp op F.w.un) (O.e X C F a) (O.e X C F b) (mark_of hb)) fun _ _ _ h => e_cmp h
theorem po_of (O : SOk ct G S) (F : Fac X ct G C) (lo : Option Expr) : PO X lo (tOptI (K := X.K) (ct := ct) (lo.map (S.e C))) := by
  cases lo with
  | none => exact L2.po_none
  | some e => exact L2.po_some (O.e X C F e)
theorem ok_subE (O : SOk ct G S) (F : Fac X ct G C) (o i : Expr) (pos : Pos) : PE X (.Subscript o i pos) (TEf X.K ct (stE G S C (.Subscript o i pos))) := by
  have main : ∀ i : Expr, PE X (.Subscript o i pos) (TEf X.K ct (if okX i then (if isPath C o && isP C i then cK (S.k C (.Subscript o i pos)) else match o with
      | .Name x _ => (match rdSlot C x with | some j => cIxV j (S.e C i) | none => nil1)
      | o => cIx (S.e C o) (S.e C i)) else nil1)) := by
    intro i
    split
    · rename_i hok
      split
      · exact PEw (O.k X C F _) fun _ _ _ h => e_look h
      · split
        · rename_i x p
          split
          · rename_i j hj
            obtain ⟨h1, h2, h3, h4⟩ := rd_of F hj
            exact PEw (L2.pe_ix ixv (L2.pe_var h1 h2 h3 h4) (O.e X C F i) (plain_of hok)) fun _ _ _ h => e_ixv h
          · exact failE
        · exact PEw (L2.pe_ix ixr (O.e X C F o) (O.e X C F i) (plain_of hok)) fun _ _ _ h => e_ix h
    · exact failE
  cases i with
  | Slice lo hi st p =>
    cases st with
    | none =>
      simp only [stE]
      split
      · exact PEw (L2.pe_slice slr (O.e X C F o) (po_of O F lo) (po_of O F hi)) fun _ _ _ h => e_sl h
      · exact failE
    | some _ => exact failE
  | _ => exact main _
theorem ok_e (O : SOk ct G S) (F : Fac X ct G C) (e : Expr) : PE X e (TEf X.K ct (stE G S C e)) := by
  cases e with
  | Constant c j pos =>
    simp only [stE]
    split
    · rename_i d hd
      exact PEw (pe_con (ct := ct) hd) fun _ _ _ h => e_pure h
    · exact failE
  | Name x p => simp only [stE]; exact PEw (O.k X C F _) fun _ _ _ h => e_look h
  | Attribute o f p =>
    simp only [stE]
    split
    · rename_i hb
      split
      · exact PEw (O.k X C F _) fun _ _ _ h => e_look h
      · exact PEw (L2.pe_fld (O.e X C F o) (base_of hb)) fun _ _ _ h => e_fld h
    · exact failE
  | Subscript o i p => exact ok_subE O F o i p
  | BinOp a op b pos => simp only [stE]; exact PEw (L2.pe_op (opr_bin op) (O.e X C F a) (O.e X C F b)) fun _ _ _ h => e_bin h
  | UnaryOp op a pos =>
    cases op with
    | USub => simp only [stE]; exact PEw (L2.pe_un L2.un_neg (O.e X C F a)) fun _ _ _ h => e_neg h
    | Not => simp only [stE]; exact PEw (L2.pe_not (O.e X C F a)) fun _ _ _ h => e_not h
    | _ => exact failE
  | BoolOp op es pos =>
    cases op with
    | And => simp only [stE]; exact ok_and O F pos es
    | Or => simp only [stE]; exact ok_or O F pos es
  | Compare a ops bs pos =>
    unfold stE
    split
    all_goals first | exact failE | skip
    all_goals rename_i heq
    all_goals try cases heq
    split
    · rename_i hb
      unfold stCmp
      split
      · split
        · exact PEw (L2.pe_cmpR (opr_in false F.w.un) (O.p X C F _) (O.k X C F _) (mark_of hb)) fun _ _ _ h => e_inK h
        · exact PEw (L2.pe_cmpR (opr_in false F.w.un) (O.e X C F _) (O.e X C F _) (mark_of hb)) fun _ _ _ h => e_in h
      · split
        · exact PEw (L2.pe_cmpR (opr_in true F.w.un) (O.p X C F _) (O.k X C F _) (mark_of hb)) fun _ _ _ h => e_inK h
        · exact PEw (L2.pe_cmpR (opr_in true F.w.un) (O.e X C F _) (O.e X C F _) (mark_of hb)) fun _ _ _ h => e_in h
      · exact ok_cmp O F hb
    · exact failE
  | IfExp t a b pos => simp only [stE]; exact PEw (L2.pe_ifExp (O.t X C F t) (O.e X C F a) (O.e X C F b)) fun _ _ _ h => e_if h
  | Tuple es k pos =>
    simp only [stE]
    split
    · rename_i h; exact PEw (pe_tup (pa_of O F h)) fun _ _ _ h => e_tup h
    · exact failE
  | List es pos =>
    simp only [stE]
    split
    · rename_i h; exact PEw (L2.pe_lst (pa_of O F h)) fun _ _ _ h => e_lst h
    · exact failE
  | Call f es kws pos =>
    cases kws with
    | nil => simp only [stE]; exact ok_call O F f es pos
    | cons _ _ => exact failE
  | ListComp elt gs scope pos => simp only [stE]; exact ok_comp O F elt gs scope pos
  | _ => exact failE
theorem ok_andT (O : SOk ct G S) (F : Fac X ct G C) (pos : Pos) : ∀ es : List Expr, es ≠ [] → PW X (.BoolOp .And es pos) (TTf X.K ct (andT (es.map (S.t C))))
  | [], h => absurd rfl h
  | [a], _ => L2.pw_and1 (O.t X C F a)
  | a :: b :: r, _ => by
    have := L2.pw_and (O.t X C F a) (ok_andT O F pos (b :: r) (by simp))
    exact ⟨fun wh pins s σ H Q I q => this.run wh pins s σ H Q I (t_and q)⟩
theorem ok_orT (O : SOk ct G S) (F : Fac X ct G C) (pos : Pos) : ∀ es : List Expr, es ≠ [] → PW X (.BoolOp .Or es pos) (TTf X.K ct (orT (es.map (S.t C))))
  | [], h => absurd rfl h
  | [a], _ => L2.pw_or1 (O.t X C F a)
  | a :: b :: r, _ => by
    have := L2.pw_or (O.t X C F a) (ok_orT O F pos (b :: r) (by simp))
    exact ⟨fun wh pins s σ H Q I q => this.run wh pins s σ H Q I (t_or q)⟩
theorem ok_t (O : SOk ct G S) (F : Fac X ct G C) (e : Expr) : PT X e (TTf X.K ct (stT S C e)) := by
  have gen : (∀ whole, isTrue e X.env whole = (do let v ← whole; standAt e.pos; holding [v] (truthy v))) → PT X e (TTf X.K ct (if isPath C e then tK (S.k C e) else tV (S.e C e))) := by
    intro he
    split
    · exact PTw (L2.pt_truth (O.k X C F e) he) fun _ _ _ h => t_k h
    · exact PTw (L2.pt_truth (O.e X C F e) he) fun _ _ _ h => t_v h
  cases e with
  | UnaryOp op a pos =>
    cases op with
    | Not => simp only [stT]; exact PTw (L2.pt_not (O.t X C F a)) fun _ _ _ h => t_not h
    | _ => exact gen fun _ => rfl
  | BoolOp op es pos =>
    cases op with
    | And =>
      simp only [stT]
      cases es with
      | nil => exact failT
      | cons a r => exact (ok_andT O F pos (a :: r) (by simp)).pt
    | Or =>
      simp only [stT]
      cases es with
      | nil => exact failT
      | cons a r => exact (ok_orT O F pos (a :: r) (by simp)).pt
  | Compare a ops bs pos =>
    unfold stT
    split
    all_goals first | exact failT | skip
    all_goals rename_i heq
    all_goals try cases heq
    · rename_i hb0
      split
      · rename_i hb
        unfold stCmp
        split
        · split
          · exact PTw (L2.pt_cmpR (opr_in false F.w.un) (O.p X C F _) (O.k X C F _) (mark_of hb)) fun _ _ _ h => e_inK (t_b h)
          · exact PTw (L2.pt_cmpR (opr_in false F.w.un) (O.e X C F _) (O.e X C F _) (mark_of hb)) fun _ _ _ h => e_in (t_b h)
        · split
          · exact PTw (L2.pt_cmpR (opr_in true F.w.un) (O.p X C F _) (O.k X C F _) (mark_of hb)) fun _ _ _ h => e_inK (t_b h)
          · exact PTw (L2.pt_cmpR (opr_in true F.w.un) (O.e X C F _) (O.e X C F _) (mark_of hb)) fun _ _ _ h => e_in (t_b h)
        · exact PTw (L2.pt_cmpR (opr_cmp _ F.w.un) (O.e X C F _) (O.e X C F _) (mark_of hb)) fun _ _ _ h => e_cmp (t_b h)
      · exact failT
    · rename_i z
      exact (z _ _ _ _ rfl).elim
  | IfExp _ _ _ _ => exact failT
  | _ => exact gen fun _ => rfl
theorem step_ok (O : SOk ct G S) : SOk ct G (Sm.step G S) := ⟨fun X C F e => ok_k O F e, fun X C F e => ok_p O F e, fun X C F e => ok_e O F e, fun X C F e => ok_t O F e⟩
theorem sm_ok : ∀ n, SOk ct G (sm G n)
  | 0 => bot_ok
  | n + 1 => step_ok (sm_ok n)
end
end Ev
set_option Elab.async false
set_option linter.all false
set_option maxRecDepth 100000
set_option maxHeartbeats 1000000
/-! .. statements. -/
namespace Ev
open PySem PySem.Spec PyProof.Rows PySem.Calls
open L2 (V HO Hp SqL SqT Same upd upd_same upd_ne Cx PE PT PA PI PG PS PSs PW PO PGs PTs Ends It Inv RelV Vals VK Gl TI XK Sp CXT FnOk Room Binds Passes Meth Cls Mk CX0 E0 FnScope OpR CallR IxR PlainIx)

section
variable {X : Cx} {ct : Str → Option Addr} {G : Gt} {C : Cn} {S : Sm} {fx : List Nat}
theorem PSw {st : Stmt} {t t' : L2.TS} (h : PS X st t) (w : ∀ D σ H, t' D σ H → t D σ H) : PS X st t' := ⟨fun pins s σ H D I q => h.run pins s σ H D I (w _ _ _ q)⟩
theorem PSsw {st : List Stmt} {t t' : L2.TS} (h : PSs X st t) (w : ∀ D σ H, t' D σ H → t D σ H) : PSs X st t' := ⟨fun pins s σ H D I q => h.run pins s σ H D I (w _ _ _ q)⟩
theorem failS {st : Stmt} : PS X st (TSf X.K ct fx sFail) := ⟨fun _ _ _ _ _ _ h => (s_fail h).elim⟩
theorem free_of {ns : List Nat} (h : freeOf fx ns = true) : ∀ j ∈ ns, j ∉ fx := fun j hj hm => by
  have := List.all_eq_true.mp h j hj
  simp [hm] at this
theorem setName (F : Fac X ct G C) {S0 : Sm} (O : SOk ct G S0) {x : Str} {p pos : Pos} {v : Expr} {i : Nat} (hi : wrSlot C x = some i) (hf : freeOf fx [i] = true) (hv : okX v = true) :
    PS X (.Assign [.Name x p] v pos) (TSf X.K ct fx (sAsg i ((Sm.step G S0).e C v))) := by
  obtain ⟨h1, h2, h3⟩ := wr_of F hi
  have hfi : i ∉ fx := free_of hf i (by simp)
  have plain : swapsWith v (some (.Name x p)) pos.line X.env = pure false → PS X (.Assign [.Name x p] v pos) (TSf X.K ct fx (sAsg i ((Sm.step G S0).e C v))) := fun hs =>
    PSw (L2.ps_set F.nd h1 h2 ((step_ok O).e X C F v) hs h3) fun _ _ _ h => s_asg hfi h
  cases v with
  | ListComp elt gs scope cp =>
    have hsw : swapsWith (.ListComp elt gs scope cp) (some (.Name x p)) pos.line X.env = pure (X.env.blockKind == .function && X.env.kindOf x == some .local && p.line == cp.line && !(scope.names.any fun (n, k) => n == x && (k == .local || k == .cell))) := rfl
    cases hb : (X.env.blockKind == .function && X.env.kindOf x == some .local && p.line == cp.line && !(scope.names.any fun (n, k) => n == x && (k == .local || k == .cell))) with
    | false => exact plain (by rw [hsw, hb])
    | true =>
      rw [hb] at hsw
      have hl : X.env.scope.names.lookup x = some .local := by
        simp only [Bool.and_eq_true] at hb
        have := hb.1.1.2
        simpa [Env.kindOf] using this
      show PS X _ (TSf X.K ct fx (sAsg i (stComp S0 C elt gs scope)))
      rcases comp_of O F elt gs scope with h | ⟨tg, iter, ifs, rfl, own, it, g, t, c, e, h1', h2', h3', h4', h5', h6'⟩
      · rw [h]
        exact ⟨fun _ _ _ _ _ _ ⟨_, _, _, _, _, h, _⟩ => by simp [sAsg, nil1] at h⟩
      · rw [e]
        exact PSw (L2.ps_setLc F.calm F.nd h1 hl hsw h1' h2' h4' h5' h6' h3') fun _ _ _ h => e_comp (s_asg hfi h)
  | SetComp _ _ _ _ => simp [okX] at hv
  | DictComp _ _ _ _ _ => simp [okX] at hv
  | _ => exact plain rfl
theorem ok_asg (F : Fac X ct G C) {S0 : Sm} (O : SOk ct G S0) (tg v : Expr) (pos : Pos) : PS X (.Assign [tg] v pos) (TSf X.K ct fx (stAsg G (Sm.step G S0) C fx tg v)) := by
  have OS := step_ok (G := G) O
  unfold stAsg
  split
  · rename_i x p
    split
    · rename_i i hi
      split
      · rename_i hc
        simp only [Bool.and_eq_true] at hc
        exact setName F O hi hc.1 hc.2
      · exact failS
    · exact failS
  · rename_i es k p
    split
    · exact failS
    · rename_i hc
      simp only [Bool.or_eq_true, not_or, Bool.not_eq_true] at hc
      split
      · rename_i g hg
        split
        · rename_i hf
          have hw : swappedStores [.Tuple es k p] v X.env = pure none := by
            cases v <;> first | rfl | (simp [isTup] at hc)
          exact PSw (L2.ps_asg (OS.e X C F v) (ok_g F hg) (show swapsWith v (some (.Tuple es k p)) pos.line X.env = pure false from swap_of hc.2) hw rfl) fun _ _ _ h => s_tgt (free_of hf) h
        · exact failS
      · exact failS
  · rename_i o i p
    split
    · exact failS
    · rename_i hv
      split
      · rename_i hi
        have ha : ∀ v, assign (.Subscript o i p) X.env v = (do
            let ov ← holding [v] (eval o X.env)
            let iv ← holding [v, ov] (eval i X.env)
            standAt p
            holding [v, ov, iv] (setItem ov iv v)
            release [v, ov, iv] []) := by
          intro v
          cases i <;> first | rfl | (simp [okX] at hi)
        have hw : swappedStores [.Subscript o i p] v X.env = pure none := by cases v <;> rfl
        exact PSw (L2.ps_asg (OS.e X C F v) (L2.pg_sub (OS.k X C F o) (OS.p X C F i) L2.set_list ha) (show swapsWith v (some (.Subscript o i p)) pos.line X.env = pure false from swap_of (by simpa using hv)) hw rfl) fun _ _ _ h => s_idx h
      · exact failS
  · rename_i o f p
    split
    · exact failS
    · rename_i hv
      exact PSw (L2.ps_fld (OS.k X C F o) (OS.e X C F v) (swap_of (by simpa using hv))) fun _ _ _ h => s_fld F.w.fa h
  · exact failS
theorem ok_app (F : Fac X ct G C) {o a : Expr} {to ta : L2.TE} {apos cpos : Pos} (ho : PE X o to) (ha : PE X a ta) (hb : okB o = true) (hk : okX a = true) (hl : (apos.endLine == cpos.line) = true) :
    PE X (.Call (.Attribute o (Str.ofString "append") apos) [a] [] cpos) (L2.tBM X.K "list" L2.rAppend to (L2.tCons ta L2.tNil)) := by
  refine L2.pe_bm PySem.F.plainAttrs_list PySem.F.slot_list_append PySem.F.type_list_append L2.mt_append ho (L2.pa_cons ha L2.pa_nil (star_of hk)) (base_of hb) ?_ hl (star_of hk) rfl
  rw [star_one hk]
  rfl
theorem ok_exp (F : Fac X ct G C) (OS : SOk ct G S) (e : Expr) (pos : Pos) : PS X (.Expr e pos) (TSf X.K ct fx (stExp S C e)) := by
  unfold stExp
  split
  · exact PSw L2.ps_doc fun _ _ _ h => s_skip h
  · rename_i o m apos a cpos
    split
    · rename_i hm
      subst hm
      split
      · rename_i hc
        simp only [Bool.and_eq_true] at hc
        obtain ⟨⟨h1, h2⟩, h3⟩ := hc
        split
        · rename_i x p
          split
          · rename_i i hi
            obtain ⟨g1, g2, g3, g4⟩ := rd_of F hi
            exact PSw (L2.ps_expr (ok_app F (L2.pe_var g1 g2 g3 g4) (OS.e X C F a) h2 h1 h3)) fun _ _ _ h => s_app h
          · exact failS
        · exact PSw (L2.ps_expr (ok_app F (OS.k X C F o) (OS.p X C F a) h2 h1 h3)) fun _ _ _ h => s_appK h
      · exact failS
    · exact PSw (L2.ps_expr (OS.e X C F _)) fun _ _ _ h => s_drop h
  · split
    · exact failS
    · rename_i hc
      exact PSw (L2.ps_expr (OS.e X C F _) (swap_of (by simpa using hc))) fun _ _ _ h => s_drop h
theorem ok_aug (F : Fac X ct G C) (OS : SOk ct G S) (x : Str) (p : Pos) (op : Operator) (e : Expr) (pos : Pos) : PS X (.AugAssign (.Name x p) op e pos) (TSf X.K ct fx (augS C fx S x op e)) := by
  unfold augS
  split
  · rename_i i hi
    obtain ⟨h1, h2, h3⟩ := wr_of F hi
    split
    · rename_i hf
      have hfi : i ∉ fx := free_of hf i (by simp)
      split
      · exact PSw (L2.ps_aug F.nd h1 h2 (OS.e X C F e) L2.ip_add h3) fun _ _ _ h => s_aug (fun _ _ => rfl) hfi h
      · exact PSw (L2.ps_aug F.nd h1 h2 (OS.e X C F e) L2.ip_sub h3) fun _ _ _ h => s_aug (fun _ _ => rfl) hfi h
      · exact failS
    · exact failS
  · exact failS
mutual
theorem ok_s (F : Fac X ct G C) {S0 : Sm} (O : SOk ct G S0) : ∀ st : Stmt, PS X st (TSf X.K ct fx (stS G (Sm.step G S0) C fx st))
  | .Assign [] _ _ => failS
  | .Assign [tg] v pos => by unfold stS; exact ok_asg F O tg v pos
  | .Assign (_ :: _ :: _) _ _ => failS
  | .AugAssign tg op e pos => by
    cases tg with
    | Name x p => unfold stS; exact ok_aug F (step_ok O) x p op e pos
    | _ => exact failS
  | .Expr e pos => by unfold stS; exact ok_exp F (step_ok O) e pos
  | .Return none pos => by unfold stS; exact PSw L2.ps_retN fun _ _ _ h => s_retN h
  | .Return (some e) pos => by
    have gen : PS X (.Return (some e) pos) (TSf X.K ct fx (sRet ((Sm.step G S0).e C e))) := PSw (L2.ps_ret ((step_ok O).e X C F e)) fun _ _ _ h => s_ret h
    cases e with
    | Name x p =>
      unfold stS
      split
      · rename_i i hi
        obtain ⟨g1, g2, g3, g4⟩ := rd_of F hi
        exact PSw (L2.ps_ret (L2.pe_var g1 g2 g3 g4)) fun _ _ _ h => s_retV h
      · exact gen
    | _ => exact gen
  | .If c a b pos => by
    unfold stS
    exact PSw (L2.ps_if ((step_ok O).t X C F c) (ok_ss F O a) (ok_ss F O b)) fun _ _ _ h => s_if h
  | .For tg it body orelse pos => by
    cases orelse with
    | nil =>
      unfold stS
      split
      · rename_i i g hi hg
        split
        · rename_i hf
          obtain ⟨i1, i2⟩ := ok_i (step_ok O) F hi
          exact PSw (L2.ps_for (by rw [F.nox]; exact PassesOwn.never) F.calm i1 (ok_g F hg) (ok_ss F O body) i2) fun _ _ _ h => s_for (free_of hf) h
        · exact failS
      · exact failS
    | cons _ _ => exact failS
  | .While c body orelse pos => by
    cases orelse with
    | nil =>
      unfold stS
      exact PSw (L2.ps_while (by rw [F.nox]; exact PassesOwn.never) ((step_ok O).t X C F c) (ok_ss F O body)) fun _ _ _ h => s_while h
    | cons _ _ => exact failS
  | .Assert t m pos => by unfold stS; exact PSw (L2.ps_assert ((step_ok O).t X C F t)) fun _ _ _ h => s_assert h
  | .Break pos => by unfold stS; exact PSw L2.ps_break fun _ _ _ h => s_break h
  | .Continue pos => by unfold stS; exact PSw L2.ps_continue fun _ _ _ h => s_cont h
  | .Pass pos => by unfold stS; exact PSw L2.ps_pass fun _ _ _ h => s_skip h
  | .FunctionDef .. => failS
  | .AsyncFunctionDef .. => failS
  | .ClassDef .. => failS
  | .Delete .. => failS
  | .TypeAlias .. => failS
  | .AnnAssign .. => failS
  | .AsyncFor .. => failS
  | .With .. => failS
  | .AsyncWith .. => failS
  | .Match .. => failS
  | .Raise .. => failS
  | .Try .. => failS
  | .TryStar .. => failS
  | .Import .. => failS
  | .ImportFrom .. => failS
  | .Global .. => failS
  | .Nonlocal .. => failS
theorem ok_ss (F : Fac X ct G C) {S0 : Sm} (O : SOk ct G S0) : ∀ sts : List Stmt, PSs X sts (TSf X.K ct fx (stSs G (Sm.step G S0) C fx sts))
  | [] => by unfold stSs; exact PSsw L2.pss_nil fun _ _ _ h => s_skip h
  | s :: r => by unfold stSs; exact PSsw (L2.pss_cons (ok_s F O s) (ok_ss F O r)) fun _ _ _ h => s_seq h
end
end
end Ev
set_option Elab.async false
set_option linter.all false
set_option maxRecDepth 100000
set_option maxHeartbeats 1000000
/-! The table of a program's defs; what they compute, level by level; that they keep it. -/
namespace Ev
open PySem PySem.Spec PyProof.Rows PySem.Calls
open L2 (V HO Hp SqL SqT Same upd upd_same upd_ne Cx PE PT PA PI PG PS PSs PW PO PGs PTs Ends It Inv RelV Vals VK Gl TI XK Sp CXT FnOk Room Binds Passes Meth Cls Mk CX0 E0 FnScope OpR CallR IxR PlainIx FunD defArgs defBody defScope)

abbrev Pl : Type := Str × Option Str
/-- a def: where it stands, names, its row, its slots, its parameters, what it changes of them, defaults -/
structure Fd where
  at_ : Pl
  name : Str
  qual : Str
  st : Stmt
  N : List Str
  ps : List Str
  mu : List Nat
  dn : List Int
structure Tb where
  ds : List Fd
  cst : List (Str × Int)
  cls : List (Str × List Str)
  wh : Nat
  fuel : Nat
def Tb.find (T : Tb) (p : Pl) : Option Fd := T.ds.find? fun d => decide (d.at_ = p)
def Fd.info (d : Fd) (r : Pl → Fn) : FnI := ⟨r d.at_, d.mu, d.ps.length, d.dn⟩
def Tb.gt (T : Tb) (r : Pl → Fn) (r1 : Option (Pl → Fn)) : Gt where
  fns := fun x => match T.find (x, none) with | some d => some (d.info r) | none => none
  mks := fun x => match r1 with
    | some r1 => (match T.cls.lookup x with
      | some _ => (match T.find (x, some ("__init__" : Str)) with | some d => some (d.info r1) | none => none)
      | none => none)
    | none => none
  mts := fun m c => match T.find (c, some m) with | some d => some (d.info r) | none => none
  cst := fun x => T.cst.lookup x
  fa := fun c f => match T.cls.lookup c with | some fs => fs.any fun g => decide (g = f) | none => false
  wh := T.wh
def Fd.body (T : Tb) (d : Fd) (G : Gt) : SS := stSs G (Sm.step G (sm G T.fuel)) ⟨d.N, defScope d.st, fun _ => true⟩ d.mu (defBody d.st)
def runs (T : Tb) : Nat → (Pl → Fn) × Option (Pl → Fn)
  | 0 => (fun _ _ => none, none)
  | k + 1 => (fun p => match T.find p with
    | some d => runF (d.body T (T.gt (runs T k).1 (runs T k).2)) d.N.length d.ps.length d.mu
    | none => fun _ => none, some (runs T k).1)
def run (T : Tb) (k : Nat) : Pl → Fn := (runs T k).1

def Fd.fun_ (d : Fd) (K : PySem.W.Frag) (fd : FuncData) : Prop := FunD K d.name d.qual (defArgs d.st) (defBody d.st) (defScope d.st) (d.dn.map V.int) [] (He.fAd K d.at_) fd
def Fd.bnd (d : Fd) : Prop := ∀ (K : PySem.W.Frag) (fd : FuncData), d.fun_ K fd → ∀ n, n + (FnI.fill ⟨fun _ => none, d.mu, d.ps.length, d.dn⟩ n).length = d.ps.length → ∃ ds, Vals ((FnI.fill ⟨fun _ => none, d.mu, d.ps.length, d.dn⟩ n).map V.int) ds ∧ Binds K fd d.ps ds
/-- what the text says by itself -/
structure Tb.Ok (T : Tb) : Prop where
  sc : ∀ d ∈ T.ds, FnScope d.N d.ps (defScope d.st)
  bnd : ∀ d ∈ T.ds, d.bnd
/-- what stands behind the top -/
structure Good (T : Tb) (K : PySem.W.Frag) (mg : Str → Option Value) : Prop where
  def_ : ∀ d ∈ T.ds, ∃ fd, d.fun_ K fd
  glo : ∀ d ∈ T.ds, d.at_.2 = none → mg d.at_.1 = some (.ref (He.ga K d.at_.1))
  free : ∀ b ∈ ["len", "list", "tuple", "sum", "min", "max", "sorted", "int", "abs", "isinstance", "set", "range", "enumerate", "reversed", "zip", "bool", "str"], mg (Str.ofString b) = none
  cst : ∀ q ∈ T.cst, ∃ t, mg q.1 = some (.int q.2 t)
  cls : ∀ q ∈ T.cls, mg q.1 = some (.ref (He.ga K q.1)) ∧ Cls K (He.ga K q.1) ∧ Mk K (He.ga K q.1) (He.ma K (He.ga K q.1) "__init__") ∧ ∀ f ∈ q.2, L2.NoAttr K (He.ga K q.1) f
  meth : ∀ d ∈ T.ds, ∀ m, d.at_.2 = some m → m ≠ ("__init__" : Str) → Meth K (He.ga K d.at_.1) m (He.ma K (He.ga K d.at_.1) m)
def Tb.ct (T : Tb) (K : PySem.W.Frag) (c : Str) : Option Addr := match T.cls.lookup c with | some _ => some (He.ga K c) | none => none

section
variable {T : Tb} {K : PySem.W.Frag} {mg : Str → Option Value} {P : Program} {w : World} {base : Heap}
theorem find_of {p : Pl} {d : Fd} (h : T.find p = some d) : d ∈ T.ds ∧ d.at_ = p := by
  unfold Tb.find at h
  exact ⟨List.mem_of_find?_eq_some h, by simpa using List.find?_some h⟩
theorem fn_bot {k : Nat} {f : Addr} {fd : FuncData} {ps : List Str} {mu : List Nat} {ct : Str → Option Addr} : FnOk P w K mg base CX0 k f fd ps (spR K ct (fun _ => none) mu ps.length) :=
  ⟨fun vs H Q E h => h.1, fun A outer s H args us vs Q E hr e0 hb hv h => by obtain ⟨_, _, _, _, _, _, _, _, _, z, _⟩ := h; cases z⟩
theorem all_ok (ok : T.Ok) (g : Good T K mg) : ∀ (k : Nat) (p : Pl) (d : Fd) (fd : FuncData), T.find p = some d → d.fun_ K fd → FnOk P w K mg base CX0 k (He.fAd K p) fd d.ps (spR K (T.ct K) (run T k p) d.mu d.ps.length) ∧
    ∀ r1, (runs T k).2 = some r1 → ∃ j, k = j + 1 ∧ FnOk P w K mg base CX0 j (He.fAd K p) fd d.ps (spR K (T.ct K) (r1 p) d.mu d.ps.length)
  | 0, p, d, fd, hf, F => ⟨fn_bot, fun r1 h => by cases h⟩
  | k + 1, p, d, fd, hf, F => by
    obtain ⟨hd, rfl⟩ := find_of hf
    have ih := all_ok ok g k
    refine ⟨?_, fun r1 h => ⟨k, rfl, ?_⟩⟩
    · have er : run T (k + 1) d.at_ = runF (d.body T (T.gt (runs T k).1 (runs T k).2)) d.N.length d.ps.length d.mu := by
        show (match T.find d.at_ with | some d => _ | none => _) = _
        rw [hf]
      rw [er]
      have W : FnW K d.name d.qual (defArgs d.st) (defBody d.st) (defScope d.st) (He.fAd K d.at_) fd := by
        obtain ⟨oc, od, dV, kV, doc, pm, an, cdv, ct, osl, e1, e2, e3, _, _⟩ := F.ex
        exact ⟨oc, od, dV, kV, doc, pm, an, cdv, ct, osl, e1, e2, e3⟩
      refine fn_def W (ok.sc d hd) fun cdv A outer s H E hr => ?_
      have fac : Fac (L2.cxOf CX0 P w K mg base d.N d.qual (defScope d.st) (He.fAd K d.at_) cdv A outer s H E).nox (T.ct K) (T.gt (runs T k).1 (runs T k).2) ⟨d.N, defScope d.st, fun _ => true⟩ := by
        refine ⟨rfl, rfl, rfl, rfl, (ok.sc d hd).nd, rfl, (ok.sc d hd).kind, ⟨hr.units, g.free, fun x c h => ?_, fun x i h => ?_, fun x i h => ?_, fun m c i C h hC => ?_, fun c f C h hC => ?_⟩⟩
        · have h : T.cst.lookup x = some c := h
          exact g.cst (x, c) (PySem.mem_of_lookup h)
        · simp only [Tb.gt] at h
          split at h
          · rename_i d2 hd2
            cases h
            obtain ⟨m2, e2⟩ := find_of hd2
            obtain ⟨fd2, F2⟩ := g.def_ d2 m2
            have gl := g.glo d2 m2 (by rw [e2])
            rw [e2] at gl
            refine ⟨k, He.fAd K (x, none), fd2, d2.ps, gl, ?_, ?_, hr, rfl, ok.bnd d2 m2 K fd2 F2⟩
            · have := F2.kp
              rw [e2] at this
              exact this
            · have := (ih (x, none) d2 fd2 hd2 F2).1
              unfold Fd.info
              rw [e2]
              exact this
          · cases h
        · simp only [Tb.gt] at h
          split at h
          · rename_i r1 hr1
            split at h
            · rename_i fs hfs
              split at h
              · rename_i d2 hd2
                cases h
                obtain ⟨m2, e2⟩ := find_of hd2
                obtain ⟨fd2, F2⟩ := g.def_ d2 m2
                obtain ⟨c1, c2, c3, c4⟩ := g.cls (x, fs) (PySem.mem_of_lookup hfs)
                obtain ⟨j, rfl, hj⟩ := (ih (x, some ("__init__" : Str)) d2 fd2 hd2 F2).2 r1 hr1
                refine ⟨j, He.ga K x, He.fAd K (x, some ("__init__" : Str)), fd2, d2.ps, c1, ?_, c2, c3, ?_, hr, rfl, ok.bnd d2 m2 K fd2 F2⟩
                · unfold Tb.ct; rw [hfs]
                · unfold Fd.info
                  rw [e2]
                  exact hj
              · cases h
            · cases h
          · cases h
        · simp only [Tb.gt] at h
          split at h
          · rename_i d2 hd2
            cases h
            obtain ⟨m2, e2⟩ := find_of hd2
            obtain ⟨fd2, F2⟩ := g.def_ d2 m2
            unfold Tb.ct at hC
            split at hC
            · rename_i fs hfs
              cases hC
              by_cases hm : m = ("__init__" : Str)
              · subst hm
                obtain ⟨c1, c2, c3, c4⟩ := g.cls (c, fs) (PySem.mem_of_lookup hfs)
                refine ⟨k, He.fAd K (c, some ("__init__" : Str)), fd2, d2.ps, ⟨c3.init, c3.fn, ?_⟩, ?_, hr, rfl, ok.bnd d2 m2 K fd2 F2⟩
                · have := F2.kp
                  rw [e2] at this
                  exact this
                · have := (ih _ d2 fd2 hd2 F2).1
                  unfold Fd.info
                  rw [e2]
                  exact this
              · have me := g.meth d2 m2 m (by rw [e2]) hm
                rw [e2] at me
                refine ⟨k, He.fAd K (c, some m), fd2, d2.ps, me, ?_, hr, rfl, ok.bnd d2 m2 K fd2 F2⟩
                have := (ih _ d2 fd2 hd2 F2).1
                unfold Fd.info
                rw [e2]
                exact this
            · cases hC
          · cases h
        · simp only [Tb.gt] at h
          split at h
          · rename_i fs hfs
            unfold Tb.ct at hC
            rw [hfs] at hC
            cases hC
            obtain ⟨c1, c2, c3, c4⟩ := g.cls (c, fs) (PySem.mem_of_lookup hfs)
            obtain ⟨f', hf', e'⟩ := List.any_eq_true.mp h
            have : f' = f := by simpa using e'
            subst this
            exact c4 f' hf'
          · cases h
      exact ok_ss fac (sm_ok T.fuel) (defBody d.st)
    · have : (runs T (k + 1)).2 = some (runs T k).1 := rfl
      rw [this] at h
      cases h
      exact (ih d.at_ d fd hf F).1
/-- the law: called with a list from outside -/
def spLaw (K : PySem.W.Frag) (n : Nat) : Sp := fun vs H Q _ => ∃ (a : Addr) (ns : List Int), vs = [.ref a] ∧ SqL K H a (ns.map V.int) ∧ ns.length ≤ n ∧ ∀ H', Q (.bl true) H'
theorem law_ok (ok : T.Ok) (g : Good T K mg) {k n : Nat} {d : Fd} {fd : FuncData} (hf : T.find (("law" : Str), none) = some d) (hmu : d.mu = []) (hps : d.ps.length = 1) (F : d.fun_ K fd)
    (law : ∀ ns : List Int, ns.length ≤ n → run T k (("law" : Str), none) [.d (.frl (ns.map .int))] = some (.d (.bl true), [])) : FnOk P w K mg base CX0 k (He.fAd K (("law" : Str), none)) fd d.ps (spLaw K n) := by
  refine (all_ok ok g k _ d fd hf F).1.imp fun vs H Q E h => ?_
  obtain ⟨a, ns, rfl, hS, hn, q⟩ := h
  rw [hmu, hps]
  refine ⟨rfl, H, [], [.d (.frl (ns.map .int)) (.ref a)], ⟨Same.refl _, by simp [MA.cellsL, MA.cells], by simp [MA.cellsL, MA.cells]⟩, ?_, rfl, _, _, by simpa [MA.ers, MA.er] using law ns hn, ?_⟩
  · unfold MA.oks MA.ok RepD
    exact ⟨⟨a, _, rfl, hS, RepDs.ints⟩, by unfold MA.oks; trivial⟩
  · intro v H' B' t us w1 sb okt oks et eu ev euv
    have : v = .bl true := by
      cases t with
      | d x v' =>
        simp only [MA.er, M.d.injEq] at et
        subst et
        unfold MA.ok RepD at okt
        rw [← ev]; exact okt
      | lst _ _ => simp [MA.er] at et
      | obj _ _ _ _ _ _ => simp [MA.er] at et
    subst this
    exact q H'
end
end Ev
set_option Elab.async false
set_option linter.all false
set_option maxRecDepth 100000
set_option maxHeartbeats 1000000
/-! From the head's facts to what the table asks; ways to bind. -/
namespace Ev
open PySem PySem.Spec PyProof.Rows PySem.Calls
open L2 (V HO Hp Vals FnOk Binds Meth Cls Mk FunD defArgs defBody defScope)

def Fd.dd (d : Fd) : He.DefD := ⟨d.at_, d.name, d.qual, defArgs d.st, defBody d.st, defScope d.st, d.dn.map He.Dv.int, []⟩
def blts : List String := ["len", "list", "tuple", "sum", "min", "max", "sorted", "int", "abs", "isinstance", "set", "range", "enumerate", "reversed", "zip", "bool", "str"]
def Fd.fa (d : Fd) : List He.Fa := match d.at_.2 with
  | none => [.glo d.at_.1]
  | some m => if m = ("__init__" : Str) then [] else [.meth d.at_.1 m]
def Tb.fa (T : Tb) : List He.Fa := T.ds.flatMap Fd.fa ++ blts.map (fun b => He.Fa.free (Str.ofString b)) ++ T.cst.map (fun q => He.Fa.int q.1 q.2) ++ T.cls.flatMap fun q => [.glo q.1, .cls q.1, .mkr q.1] ++ q.2.map fun f => .noat q.1 f
def Tb.fn (T : Tb) : List He.DefD := T.ds.map Fd.dd
theorem good_of {T : Tb} {K : PySem.W.Frag} {h : Heap} {mg : Str → Option Value} (X : K.In h) (N : h.Ns mainGlobals mg) (c : He.SaysD T.fa T.fn K) : Good T K mg := by
  have all : ∀ f ∈ T.fa, f.ok K = true := fun f hf => by
    obtain ⟨i, hi⟩ := List.mem_iff_getElem?.mp hf
    exact c.fact i hi
  have part : ∀ {f : He.Fa}, f ∈ T.ds.flatMap Fd.fa ∨ f ∈ blts.map (fun b => He.Fa.free (Str.ofString b)) ∨ f ∈ T.cst.map (fun q => He.Fa.int q.1 q.2) ∨ f ∈ (T.cls.flatMap fun q => [He.Fa.glo q.1, .cls q.1, .mkr q.1] ++ q.2.map fun f => .noat q.1 f) → f.ok K = true := fun {f} h => all f (by
    unfold Tb.fa
    simp only [List.mem_append]
    rcases h with h | h | h | h
    · exact .inl (.inl (.inl h))
    · exact .inl (.inl (.inr h))
    · exact .inl (.inr h)
    · exact .inr h)
  refine ⟨fun d hd => ?_, fun d hd h0 => ?_, fun b hb => ?_, fun q hq => ?_, fun q hq => ?_, fun d hd m hm hi => ?_⟩
  · obtain ⟨i, hi⟩ := List.mem_iff_getElem?.mp hd
    obtain ⟨fd, F⟩ := c.def_ i (d := d.dd) (by unfold Tb.fn; rw [List.getElem?_map, hi]; rfl)
    refine ⟨fd, ?_⟩
    have e : d.dd.dvs K = d.dn.map V.int := by
      unfold He.DefD.dvs Fd.dd
      rw [List.map_map]; rfl
    have e2 : d.dd.kws K = [] := rfl
    rw [e, e2] at F
    exact F
  · refine He.glo_ok X N (part (.inl (List.mem_flatMap.mpr ⟨d, hd, ?_⟩)))
    unfold Fd.fa
    rw [h0]
    exact List.mem_singleton.mpr rfl
  · exact He.free_ok X N (part (.inr (.inl (List.mem_map.mpr ⟨b, hb, rfl⟩))))
  · exact He.int_ok X N (part (.inr (.inr (.inl (List.mem_map.mpr ⟨q, hq, rfl⟩)))))
  · have go : ∀ f ∈ ([He.Fa.glo q.1, .cls q.1, .mkr q.1] ++ q.2.map fun f => .noat q.1 f), f.ok K = true := fun f hf => part (.inr (.inr (.inr (List.mem_flatMap.mpr ⟨q, hq, hf⟩))))
    refine ⟨He.glo_ok X N (go _ (by simp)), He.cls_ok (go _ (by simp)), He.mkr_ok (go _ (by simp)), fun f hf => He.noat_ok (go _ (List.mem_append_right _ (List.mem_map.mpr ⟨f, hf, rfl⟩)))⟩
  · refine He.meth_ok (part (.inl (List.mem_flatMap.mpr ⟨d, hd, ?_⟩)))
    unfold Fd.fa
    rw [hm]
    simp only
    rw [if_neg hi]
    exact List.mem_singleton.mpr rfl
/-- a def without defaults -/
theorem bnd_0 {d : Fd} (h0 : d.dn = []) (h : ∀ (kV doc pm : Value) (an : Option Addr) (cdv ct : Value) (us : List Value), us.length = d.ps.length → bindArgs (PySem.W.fnOf d.name d.qual (defArgs d.st) (defBody d.st) (defScope d.st) .none kV doc pm an cdv ct) ⟨us, []⟩ = pure (d.ps.zip us)) : d.bnd := by
  intro K fd F n hn
  unfold Fd.fun_ at F
  unfold FnI.fill
  rw [h0] at F ⊢
  simp only [List.drop_nil, List.map_nil]
  exact ⟨[], .nil, F.bindsN h⟩
/-- a def with defaults -/
theorem bnd_1 {d : Fd} (h0 : d.dn ≠ []) (h : ∀ n j, n + (d.dn.length - j) = d.ps.length → j ≤ d.dn.length → ∀ (T : Addr) (kV doc pm : Value) (an : Option Addr) (cdv ct : Value) (us its : List Value), us.length = n → its.length = d.dn.length →
      ∃ k, bindArgs (PySem.W.fnOf d.name d.qual (defArgs d.st) (defBody d.st) (defScope d.st) (.ref T) kV doc pm an cdv ct) ⟨us, []⟩ = seqItems? (.ref T) >>= k ∧ k (some its.toArray) = pure (d.ps.zip (us ++ its.drop j))) : d.bnd := by
  intro K fd F n hn
  unfold FnI.fill at hn ⊢
  simp only at hn ⊢
  have hl : (d.dn.map V.int).length = d.dn.length := List.length_map ..
  rw [List.length_drop] at hn
  obtain ⟨ds, h1, h2⟩ := F.binds1 n (d.dn.length - (d.ps.length - n)) (by simpa using h0) (by rw [hl]; omega) (by
    intro T kV doc pm an cdv ct us its hu hi
    rw [hl] at hi
    exact h n _ (by omega) (by omega) T kV doc pm an cdv ct us its hu hi)
  exact ⟨ds, by rw [List.map_drop]; exact h1, h2⟩
end Ev
set_option Elab.async false
set_option linter.all false
set_option maxRecDepth 100000
set_option maxHeartbeats 0
namespace Tw
open PySem PySem.Spec PyProof.Rows Ev
open L2 (FnScope defArgs defBody defScope inClass)
def top (i : Nat) : Stmt := PySem.Challenge.pw_turnwright_k59_clubs_ended_at_each_round.main.body.getD i (.Pass ⟨0, 0, 0, 0⟩)
def inC (i j : Nat) : Stmt := inClass (top i) j
def d_is_integer : Fd := ⟨("is_integer", none), "is_integer", "is_integer", top 4, ["value"], ["value"], [], []⟩
def d_is_within : Fd := ⟨("is_within", none), "is_within", "is_within", top 5, ["value", "low", "high"], ["value", "low", "high"], [], []⟩
def d_is_sequence : Fd := ⟨("is_sequence", none), "is_sequence", "is_sequence", top 6, ["value"], ["value"], [], []⟩
def d_is_order : Fd := ⟨("is_order", none), "is_order", "is_order", top 7, ["numbers", "many"], ["numbers", "many"], [], []⟩
def d_need : Fd := ⟨("need", none), "need", "need", top 8, ["holds", "at"], ["holds", "at"], [], []⟩
def d_need_integer : Fd := ⟨("need_integer", none), "need_integer", "need_integer", top 9, ["value", "low", "high", "at"], ["value", "low", "high", "at"], [], []⟩
def d_need_sequence : Fd := ⟨("need_sequence", none), "need_sequence", "need_sequence", top 10, ["value", "fewest", "most", "at"], ["value", "fewest", "most", "at"], [], []⟩
def d_need_integers : Fd := ⟨("need_integers", none), "need_integers", "need_integers", top 11, ["value", "fewest", "most", "low", "high", "at", "things", "thing"], ["value", "fewest", "most", "low", "high", "at"], [], []⟩
def d_need_unlike : Fd := ⟨("need_unlike", none), "need_unlike", "need_unlike", top 12, ["value", "fewest", "most", "low", "high", "at", "things"], ["value", "fewest", "most", "low", "high", "at"], [], []⟩
def d_check_club : Fd := ⟨("check_club", none), "check_club", "check_club", top 17, ["club", "at", "most"], ["club", "at", "most"], [], [7]⟩
def d_check_order : Fd := ⟨("check_order", none), "check_order", "check_order", top 18, ["order", "at"], ["order", "at"], [], []⟩
def d_check_number : Fd := ⟨("check_number", none), "check_number", "check_number", top 19, ["number", "at"], ["number", "at"], [], []⟩
def d_meet_order : Fd := ⟨("meet_order", none), "meet_order", "meet_order", top 20, ["club", "order", "at"], ["club", "order", "at"], [], []⟩
def d_meet_number : Fd := ⟨("meet_number", none), "meet_number", "meet_number", top 21, ["club", "number", "at"], ["club", "number", "at"], [], []⟩
def d_stands : Fd := ⟨("stands", none), "stands", "stands", top 23, ["club", "order", "turn", "pays", "numbers", "last", "pot", "has", "pay", "at", "member"], ["club", "order", "turn"], [], []⟩
def d_owed_behind : Fd := ⟨("owed_behind", none), "owed_behind", "owed_behind", top 25, ["club", "order", "turn", "have"], ["club", "order", "turn"], [], []⟩
def d_sheet_of : Fd := ⟨("sheet_of", none), "sheet_of", "sheet_of", top 26, ["club", "order", "first", "rows", "turn"], ["club", "order"], [], []⟩
def d_DebtSheet___init__ : Fd := ⟨("DebtSheet", some "__init__"), "__init__", "DebtSheet.__init__", inC 27 0, ["self", "rows"], ["self", "rows"], [0], []⟩
def d_DebtSheet_many_rounds : Fd := ⟨("DebtSheet", some "many_rounds"), "many_rounds", "DebtSheet.many_rounds", inC 27 1, ["self"], ["self"], [0], []⟩
def d_DebtSheet_is_even : Fd := ⟨("DebtSheet", some "is_even"), "is_even", "DebtSheet.is_even", inC 27 2, ["self", "turn", "owed"], ["self", "turn"], [0], []⟩
def d_DebtSheet_even_rounds : Fd := ⟨("DebtSheet", some "even_rounds"), "even_rounds", "DebtSheet.even_rounds", inC 27 3, ["self", "found", "turn"], ["self"], [0], []⟩
def d_DebtSheet_debt : Fd := ⟨("DebtSheet", some "debt"), "debt", "DebtSheet.debt", inC 27 4, ["self", "member", "turn"], ["self", "member", "turn"], [0], []⟩
def d_DebtSheet_debts_of : Fd := ⟨("DebtSheet", some "debts_of"), "debts_of", "DebtSheet.debts_of", inC 27 5, ["self", "member", "turn"], ["self", "member"], [0], []⟩
def d_DebtSheet_deepest : Fd := ⟨("DebtSheet", some "deepest"), "deepest", "DebtSheet.deepest", inC 27 6, ["self", "member", "debts", "most"], ["self", "member"], [0], []⟩
def d_DebtSheet_greatest : Fd := ⟨("DebtSheet", some "greatest"), "greatest", "DebtSheet.greatest", inC 27 7, ["self", "best", "member", "pence", "turn"], ["self"], [0], []⟩
def d_are_owed : Fd := ⟨("are_owed", none), "are_owed", "are_owed", top 29, ["club", "order", "turn", "owed", "pot", "had", "member", "pay"], ["club", "order", "turn", "owed"], [], []⟩
def d_is_greatest : Fd := ⟨("is_greatest", none), "is_greatest", "is_greatest", top 30, ["rows", "told", "pence", "member", "turn", "at", "row", "who", "owed", "ahead"], ["rows", "told"], [], []⟩
def d_owed_now : Fd := ⟨("owed_now", none), "owed_now", "owed_now", top 32, ["club", "order", "turn", "owed"], ["club", "order", "turn"], [], []⟩
def d_fair_end : Fd := ⟨("fair_end", none), "fair_end", "fair_end", top 33, ["club", "order"], ["club", "order"], [], []⟩
def d_greatest_debt : Fd := ⟨("greatest_debt", none), "greatest_debt", "greatest_debt", top 34, ["club", "order", "sheet", "told"], ["club", "order"], [], []⟩
def d__law_numbers : Fd := ⟨("_law_numbers", none), "_law_numbers", "_law_numbers", top 36, ["script", "row", "single", "left", "k", "stirred"], ["script"], [], []⟩
def d__law_draw : Fd := ⟨("_law_draw", none), "_law_draw", "_law_draw", top 37, ["row", "at", "limit", "stirred"], ["row", "at", "limit"], [], []⟩
def d__law_take : Fd := ⟨("_law_take", none), "_law_take", "_law_take", top 38, ["row", "spot", "limit"], ["row", "spot", "limit"], [1], []⟩
def d__law_pick : Fd := ⟨("_law_pick", none), "_law_pick", "_law_pick", top 39, ["row", "spot", "things"], ["row", "spot", "things"], [1], []⟩
def d__law_figure : Fd := ⟨("_law_figure", none), "_law_figure", "_law_figure", top 40, ["row", "spot", "many", "left", "k", "made", "pick", "other"], ["row", "spot", "many"], [1], []⟩
def d__law_club : Fd := ⟨("_law_club", none), "_law_club", "_law_club", top 41, ["row", "spot", "upto", "top", "k"], ["row", "spot", "upto"], [1], []⟩
def d_law : Fd := ⟨("law", none), "law", "law", top 42, ["script", "row", "spot", "club", "many", "order", "best", "fair", "turn", "told", "have", "one", "m", "key", "had", "names", "named", "n", "moved", "doubled", "even"], ["script"], [], []⟩
theorem sc_d_is_integer : FnScope d_is_integer.N d_is_integer.ps (defScope d_is_integer.st) := ⟨rfl, rfl, rfl, by decide +kernel, rfl, by decide +kernel, by decide +kernel⟩
theorem sc_d_is_within : FnScope d_is_within.N d_is_within.ps (defScope d_is_within.st) := ⟨rfl, rfl, rfl, by decide +kernel, rfl, by decide +kernel, by decide +kernel⟩
theorem sc_d_is_sequence : FnScope d_is_sequence.N d_is_sequence.ps (defScope d_is_sequence.st) := ⟨rfl, rfl, rfl, by decide +kernel, rfl, by decide +kernel, by decide +kernel⟩
theorem sc_d_is_order : FnScope d_is_order.N d_is_order.ps (defScope d_is_order.st) := ⟨rfl, rfl, rfl, by decide +kernel, rfl, by decide +kernel, by decide +kernel⟩
theorem sc_d_need : FnScope d_need.N d_need.ps (defScope d_need.st) := ⟨rfl, rfl, rfl, by decide +kernel, rfl, by decide +kernel, by decide +kernel⟩
theorem sc_d_need_integer : FnScope d_need_integer.N d_need_integer.ps (defScope d_need_integer.st) := ⟨rfl, rfl, rfl, by decide +kernel, rfl, by decide +kernel, by decide +kernel⟩
theorem sc_d_need_sequence : FnScope d_need_sequence.N d_need_sequence.ps (defScope d_need_sequence.st) := ⟨rfl, rfl, rfl, by decide +kernel, rfl, by decide +kernel, by decide +kernel⟩
theorem sc_d_need_integers : FnScope d_need_integers.N d_need_integers.ps (defScope d_need_integers.st) := ⟨rfl, rfl, rfl, by decide +kernel, rfl, by decide +kernel, by decide +kernel⟩
theorem sc_d_need_unlike : FnScope d_need_unlike.N d_need_unlike.ps (defScope d_need_unlike.st) := ⟨rfl, rfl, rfl, by decide +kernel, rfl, by decide +kernel, by decide +kernel⟩
theorem sc_d_check_club : FnScope d_check_club.N d_check_club.ps (defScope d_check_club.st) := ⟨rfl, rfl, rfl, by decide +kernel, rfl, by decide +kernel, by decide +kernel⟩
theorem sc_d_check_order : FnScope d_check_order.N d_check_order.ps (defScope d_check_order.st) := ⟨rfl, rfl, rfl, by decide +kernel, rfl, by decide +kernel, by decide +kernel⟩
theorem sc_d_check_number : FnScope d_check_number.N d_check_number.ps (defScope d_check_number.st) := ⟨rfl, rfl, rfl, by decide +kernel, rfl, by decide +kernel, by decide +kernel⟩
theorem sc_d_meet_order : FnScope d_meet_order.N d_meet_order.ps (defScope d_meet_order.st) := ⟨rfl, rfl, rfl, by decide +kernel, rfl, by decide +kernel, by decide +kernel⟩
theorem sc_d_meet_number : FnScope d_meet_number.N d_meet_number.ps (defScope d_meet_number.st) := ⟨rfl, rfl, rfl, by decide +kernel, rfl, by decide +kernel, by decide +kernel⟩
theorem sc_d_stands : FnScope d_stands.N d_stands.ps (defScope d_stands.st) := ⟨rfl, rfl, rfl, by decide +kernel, rfl, by decide +kernel, by decide +kernel⟩
theorem sc_d_owed_behind : FnScope d_owed_behind.N d_owed_behind.ps (defScope d_owed_behind.st) := ⟨rfl, rfl, rfl, by decide +kernel, rfl, by decide +kernel, by decide +kernel⟩
theorem sc_d_sheet_of : FnScope d_sheet_of.N d_sheet_of.ps (defScope d_sheet_of.st) := ⟨rfl, rfl, rfl, by decide +kernel, rfl, by decide +kernel, by decide +kernel⟩
theorem sc_d_DebtSheet___init__ : FnScope d_DebtSheet___init__.N d_DebtSheet___init__.ps (defScope d_DebtSheet___init__.st) := ⟨rfl, rfl, rfl, by decide +kernel, rfl, by decide +kernel, by decide +kernel⟩
theorem sc_d_DebtSheet_many_rounds : FnScope d_DebtSheet_many_rounds.N d_DebtSheet_many_rounds.ps (defScope d_DebtSheet_many_rounds.st) := ⟨rfl, rfl, rfl, by decide +kernel, rfl, by decide +kernel, by decide +kernel⟩
theorem sc_d_DebtSheet_is_even : FnScope d_DebtSheet_is_even.N d_DebtSheet_is_even.ps (defScope d_DebtSheet_is_even.st) := ⟨rfl, rfl, rfl, by decide +kernel, rfl, by decide +kernel, by decide +kernel⟩
theorem sc_d_DebtSheet_even_rounds : FnScope d_DebtSheet_even_rounds.N d_DebtSheet_even_rounds.ps (defScope d_DebtSheet_even_rounds.st) := ⟨rfl, rfl, rfl, by decide +kernel, rfl, by decide +kernel, by decide +kernel⟩
theorem sc_d_DebtSheet_debt : FnScope d_DebtSheet_debt.N d_DebtSheet_debt.ps (defScope d_DebtSheet_debt.st) := ⟨rfl, rfl, rfl, by decide +kernel, rfl, by decide +kernel, by decide +kernel⟩
theorem sc_d_DebtSheet_debts_of : FnScope d_DebtSheet_debts_of.N d_DebtSheet_debts_of.ps (defScope d_DebtSheet_debts_of.st) := ⟨rfl, rfl, rfl, by decide +kernel, rfl, by decide +kernel, by decide +kernel⟩
theorem sc_d_DebtSheet_deepest : FnScope d_DebtSheet_deepest.N d_DebtSheet_deepest.ps (defScope d_DebtSheet_deepest.st) := ⟨rfl, rfl, rfl, by decide +kernel, rfl, by decide +kernel, by decide +kernel⟩
theorem sc_d_DebtSheet_greatest : FnScope d_DebtSheet_greatest.N d_DebtSheet_greatest.ps (defScope d_DebtSheet_greatest.st) := ⟨rfl, rfl, rfl, by decide +kernel, rfl, by decide +kernel, by decide +kernel⟩
theorem sc_d_are_owed : FnScope d_are_owed.N d_are_owed.ps (defScope d_are_owed.st) := ⟨rfl, rfl, rfl, by decide +kernel, rfl, by decide +kernel, by decide +kernel⟩
theorem sc_d_is_greatest : FnScope d_is_greatest.N d_is_greatest.ps (defScope d_is_greatest.st) := ⟨rfl, rfl, rfl, by decide +kernel, rfl, by decide +kernel, by decide +kernel⟩
theorem sc_d_owed_now : FnScope d_owed_now.N d_owed_now.ps (defScope d_owed_now.st) := ⟨rfl, rfl, rfl, by decide +kernel, rfl, by decide +kernel, by decide +kernel⟩
theorem sc_d_fair_end : FnScope d_fair_end.N d_fair_end.ps (defScope d_fair_end.st) := ⟨rfl, rfl, rfl, by decide +kernel, rfl, by decide +kernel, by decide +kernel⟩
theorem sc_d_greatest_debt : FnScope d_greatest_debt.N d_greatest_debt.ps (defScope d_greatest_debt.st) := ⟨rfl, rfl, rfl, by decide +kernel, rfl, by decide +kernel, by decide +kernel⟩
theorem sc_d__law_numbers : FnScope d__law_numbers.N d__law_numbers.ps (defScope d__law_numbers.st) := ⟨rfl, rfl, rfl, by decide +kernel, rfl, by decide +kernel, by decide +kernel⟩
theorem sc_d__law_draw : FnScope d__law_draw.N d__law_draw.ps (defScope d__law_draw.st) := ⟨rfl, rfl, rfl, by decide +kernel, rfl, by decide +kernel, by decide +kernel⟩
theorem sc_d__law_take : FnScope d__law_take.N d__law_take.ps (defScope d__law_take.st) := ⟨rfl, rfl, rfl, by decide +kernel, rfl, by decide +kernel, by decide +kernel⟩
theorem sc_d__law_pick : FnScope d__law_pick.N d__law_pick.ps (defScope d__law_pick.st) := ⟨rfl, rfl, rfl, by decide +kernel, rfl, by decide +kernel, by decide +kernel⟩
theorem sc_d__law_figure : FnScope d__law_figure.N d__law_figure.ps (defScope d__law_figure.st) := ⟨rfl, rfl, rfl, by decide +kernel, rfl, by decide +kernel, by decide +kernel⟩
theorem sc_d__law_club : FnScope d__law_club.N d__law_club.ps (defScope d__law_club.st) := ⟨rfl, rfl, rfl, by decide +kernel, rfl, by decide +kernel, by decide +kernel⟩
theorem sc_d_law : FnScope d_law.N d_law.ps (defScope d_law.st) := ⟨rfl, rfl, rfl, by decide +kernel, rfl, by decide +kernel, by decide +kernel⟩
theorem bn_d_is_integer : d_is_integer.bnd := bnd_0 rfl fun _ _ _ _ _ _ us hl => match us, hl with | [_], _ => rfl
theorem bn_d_is_within : d_is_within.bnd := bnd_0 rfl fun _ _ _ _ _ _ us hl => match us, hl with | [_, _, _], _ => rfl
theorem bn_d_is_sequence : d_is_sequence.bnd := bnd_0 rfl fun _ _ _ _ _ _ us hl => match us, hl with | [_], _ => rfl
theorem bn_d_is_order : d_is_order.bnd := bnd_0 rfl fun _ _ _ _ _ _ us hl => match us, hl with | [_, _], _ => rfl
theorem bn_d_need : d_need.bnd := bnd_0 rfl fun _ _ _ _ _ _ us hl => match us, hl with | [_, _], _ => rfl
theorem bn_d_need_integer : d_need_integer.bnd := bnd_0 rfl fun _ _ _ _ _ _ us hl => match us, hl with | [_, _, _, _], _ => rfl
theorem bn_d_need_sequence : d_need_sequence.bnd := bnd_0 rfl fun _ _ _ _ _ _ us hl => match us, hl with | [_, _, _, _], _ => rfl
theorem bn_d_need_integers : d_need_integers.bnd := bnd_0 rfl fun _ _ _ _ _ _ us hl => match us, hl with | [_, _, _, _, _, _], _ => rfl
theorem bn_d_need_unlike : d_need_unlike.bnd := bnd_0 rfl fun _ _ _ _ _ _ us hl => match us, hl with | [_, _, _, _, _, _], _ => rfl
theorem bn_d_check_club : d_check_club.bnd := bnd_1 (by decide) fun n j h1 h2 => by
  have h1 : n + (1 - j) = 3 := h1
  have h2 : j ≤ 1 := h2
  intro T kV doc pm an cdv ct us its hu hi
  have hi : its.length = 1 := hi
  match its, hi with
  | [i0], _ =>
    rcases (show j = 0 ∧ n = 2 ∨ j = 1 ∧ n = 3 by omega) with ⟨rfl, rfl⟩ | ⟨rfl, rfl⟩
    · match us, hu with | [_, _], _ => exact ⟨_, rfl, rfl⟩
    · match us, hu with | [_, _, _], _ => exact ⟨_, rfl, rfl⟩
theorem bn_d_check_order : d_check_order.bnd := bnd_0 rfl fun _ _ _ _ _ _ us hl => match us, hl with | [_, _], _ => rfl
theorem bn_d_check_number : d_check_number.bnd := bnd_0 rfl fun _ _ _ _ _ _ us hl => match us, hl with | [_, _], _ => rfl
theorem bn_d_meet_order : d_meet_order.bnd := bnd_0 rfl fun _ _ _ _ _ _ us hl => match us, hl with | [_, _, _], _ => rfl
theorem bn_d_meet_number : d_meet_number.bnd := bnd_0 rfl fun _ _ _ _ _ _ us hl => match us, hl with | [_, _, _], _ => rfl
theorem bn_d_stands : d_stands.bnd := bnd_0 rfl fun _ _ _ _ _ _ us hl => match us, hl with | [_, _, _], _ => rfl
theorem bn_d_owed_behind : d_owed_behind.bnd := bnd_0 rfl fun _ _ _ _ _ _ us hl => match us, hl with | [_, _, _], _ => rfl
theorem bn_d_sheet_of : d_sheet_of.bnd := bnd_0 rfl fun _ _ _ _ _ _ us hl => match us, hl with | [_, _], _ => rfl
theorem bn_d_DebtSheet___init__ : d_DebtSheet___init__.bnd := bnd_0 rfl fun _ _ _ _ _ _ us hl => match us, hl with | [_, _], _ => rfl
theorem bn_d_DebtSheet_many_rounds : d_DebtSheet_many_rounds.bnd := bnd_0 rfl fun _ _ _ _ _ _ us hl => match us, hl with | [_], _ => rfl
theorem bn_d_DebtSheet_is_even : d_DebtSheet_is_even.bnd := bnd_0 rfl fun _ _ _ _ _ _ us hl => match us, hl with | [_, _], _ => rfl
theorem bn_d_DebtSheet_even_rounds : d_DebtSheet_even_rounds.bnd := bnd_0 rfl fun _ _ _ _ _ _ us hl => match us, hl with | [_], _ => rfl
theorem bn_d_DebtSheet_debt : d_DebtSheet_debt.bnd := bnd_0 rfl fun _ _ _ _ _ _ us hl => match us, hl with | [_, _, _], _ => rfl
theorem bn_d_DebtSheet_debts_of : d_DebtSheet_debts_of.bnd := bnd_0 rfl fun _ _ _ _ _ _ us hl => match us, hl with | [_, _], _ => rfl
theorem bn_d_DebtSheet_deepest : d_DebtSheet_deepest.bnd := bnd_0 rfl fun _ _ _ _ _ _ us hl => match us, hl with | [_, _], _ => rfl
theorem bn_d_DebtSheet_greatest : d_DebtSheet_greatest.bnd := bnd_0 rfl fun _ _ _ _ _ _ us hl => match us, hl with | [_], _ => rfl
theorem bn_d_are_owed : d_are_owed.bnd := bnd_0 rfl fun _ _ _ _ _ _ us hl => match us, hl with | [_, _, _, _], _ => rfl
theorem bn_d_is_greatest : d_is_greatest.bnd := bnd_0 rfl fun _ _ _ _ _ _ us hl => match us, hl with | [_, _], _ => rfl
theorem bn_d_owed_now : d_owed_now.bnd := bnd_0 rfl fun _ _ _ _ _ _ us hl => match us, hl with | [_, _, _], _ => rfl
theorem bn_d_fair_end : d_fair_end.bnd := bnd_0 rfl fun _ _ _ _ _ _ us hl => match us, hl with | [_, _], _ => rfl
theorem bn_d_greatest_debt : d_greatest_debt.bnd := bnd_0 rfl fun _ _ _ _ _ _ us hl => match us, hl with | [_, _], _ => rfl
theorem bn_d__law_numbers : d__law_numbers.bnd := bnd_0 rfl fun _ _ _ _ _ _ us hl => match us, hl with | [_], _ => rfl
theorem bn_d__law_draw : d__law_draw.bnd := bnd_0 rfl fun _ _ _ _ _ _ us hl => match us, hl with | [_, _, _], _ => rfl
theorem bn_d__law_take : d__law_take.bnd := bnd_0 rfl fun _ _ _ _ _ _ us hl => match us, hl with | [_, _, _], _ => rfl
theorem bn_d__law_pick : d__law_pick.bnd := bnd_0 rfl fun _ _ _ _ _ _ us hl => match us, hl with | [_, _, _], _ => rfl
theorem bn_d__law_figure : d__law_figure.bnd := bnd_0 rfl fun _ _ _ _ _ _ us hl => match us, hl with | [_, _, _], _ => rfl
theorem bn_d__law_club : d__law_club.bnd := bnd_0 rfl fun _ _ _ _ _ _ us hl => match us, hl with | [_, _, _], _ => rfl
theorem bn_d_law : d_law.bnd := bnd_0 rfl fun _ _ _ _ _ _ us hl => match us, hl with | [_], _ => rfl
def ds0 : List Fd := [d_is_integer, d_is_within, d_is_sequence, d_is_order, d_need, d_need_integer, d_need_sequence, d_need_integers, d_need_unlike, d_check_club, d_check_order, d_check_number, d_meet_order, d_meet_number, d_stands, d_owed_behind, d_sheet_of, d_DebtSheet___init__, d_DebtSheet_many_rounds, d_DebtSheet_is_even, d_DebtSheet_even_rounds, d_DebtSheet_debt, d_DebtSheet_debts_of, d_DebtSheet_deepest, d_DebtSheet_greatest, d_are_owed, d_is_greatest, d_owed_now, d_fair_end, d_greatest_debt]
def ds1 : List Fd := [d__law_numbers, d__law_draw, d__law_take, d__law_pick, d__law_figure, d__law_club, d_law]
def tb : Tb := ⟨ds0 ++ ds1, [("FEWEST_MEMBERS", 2), ("MOST_MEMBERS", 7), ("MOST_PAY", 1000)], [("DebtSheet", ["rows"])], 100000, 60⟩
theorem sc0 : ∀ d ∈ ds0, FnScope d.N d.ps (defScope d.st) := by
  unfold ds0
  simp only [List.forall_mem_cons]
  exact ⟨sc_d_is_integer, sc_d_is_within, sc_d_is_sequence, sc_d_is_order, sc_d_need, sc_d_need_integer, sc_d_need_sequence, sc_d_need_integers, sc_d_need_unlike, sc_d_check_club, sc_d_check_order, sc_d_check_number, sc_d_meet_order, sc_d_meet_number, sc_d_stands, sc_d_owed_behind, sc_d_sheet_of, sc_d_DebtSheet___init__, sc_d_DebtSheet_many_rounds, sc_d_DebtSheet_is_even, sc_d_DebtSheet_even_rounds, sc_d_DebtSheet_debt, sc_d_DebtSheet_debts_of, sc_d_DebtSheet_deepest, sc_d_DebtSheet_greatest, sc_d_are_owed, sc_d_is_greatest, sc_d_owed_now, sc_d_fair_end, sc_d_greatest_debt, fun _ h => nomatch h⟩
theorem sc1 : ∀ d ∈ ds1, FnScope d.N d.ps (defScope d.st) := by
  unfold ds1
  simp only [List.forall_mem_cons]
  exact ⟨sc_d__law_numbers, sc_d__law_draw, sc_d__law_take, sc_d__law_pick, sc_d__law_figure, sc_d__law_club, sc_d_law, fun _ h => nomatch h⟩
theorem sc_all : ∀ d ∈ tb.ds, FnScope d.N d.ps (defScope d.st) := fun d h => by
  have h : d ∈ ds0 ++ ds1 := h
  simp only [List.mem_append] at h
  rcases h with h | h
  · exact sc0 d h
  · exact sc1 d h
theorem bnd0 : ∀ d ∈ ds0, d.bnd := by
  unfold ds0
  simp only [List.forall_mem_cons]
  exact ⟨bn_d_is_integer, bn_d_is_within, bn_d_is_sequence, bn_d_is_order, bn_d_need, bn_d_need_integer, bn_d_need_sequence, bn_d_need_integers, bn_d_need_unlike, bn_d_check_club, bn_d_check_order, bn_d_check_number, bn_d_meet_order, bn_d_meet_number, bn_d_stands, bn_d_owed_behind, bn_d_sheet_of, bn_d_DebtSheet___init__, bn_d_DebtSheet_many_rounds, bn_d_DebtSheet_is_even, bn_d_DebtSheet_even_rounds, bn_d_DebtSheet_debt, bn_d_DebtSheet_debts_of, bn_d_DebtSheet_deepest, bn_d_DebtSheet_greatest, bn_d_are_owed, bn_d_is_greatest, bn_d_owed_now, bn_d_fair_end, bn_d_greatest_debt, fun _ h => nomatch h⟩
theorem bnd1 : ∀ d ∈ ds1, d.bnd := by
  unfold ds1
  simp only [List.forall_mem_cons]
  exact ⟨bn_d__law_numbers, bn_d__law_draw, bn_d__law_take, bn_d__law_pick, bn_d__law_figure, bn_d__law_club, bn_d_law, fun _ h => nomatch h⟩
theorem bnd_all : ∀ d ∈ tb.ds, d.bnd := fun d h => by
  have h : d ∈ ds0 ++ ds1 := h
  simp only [List.mem_append] at h
  rcases h with h | h
  · exact bnd0 d h
  · exact bnd1 d h
theorem tb_ok : tb.Ok := ⟨sc_all, bnd_all⟩
theorem find_law : tb.find ("law", none) = some d_law := by kernel_rfl
end Tw
set_option Elab.async false
set_option linter.all false
set_option maxRecDepth 100000
set_option maxHeartbeats 0
namespace Tw
open PySem Ev
def mt_debt_2 (r : Pl → Fn) : Str → Option Mt := (tb.gt r none).meth "debt" 2
def mt_debts_of_1 (r : Pl → Fn) : Str → Option Mt := (tb.gt r none).meth "debts_of" 1
def mt_deepest_1 (r : Pl → Fn) : Str → Option Mt := (tb.gt r none).meth "deepest" 1
def mt_even_rounds_0 (r : Pl → Fn) : Str → Option Mt := (tb.gt r none).meth "even_rounds" 0
def mt_greatest_0 (r : Pl → Fn) : Str → Option Mt := (tb.gt r none).meth "greatest" 0
def mt_is_even_1 (r : Pl → Fn) : Str → Option Mt := (tb.gt r none).meth "is_even" 1
def mt_many_rounds_0 (r : Pl → Fn) : Str → Option Mt := (tb.gt r none).meth "many_rounds" 0
def b_is_integer (r r1 : Pl → Fn) : SS := (sSeq (sRet (cAnd (bV (one (isTs ["int"])) [(cK (kVar 0))]) (cNot (bV (one (isTs ["bool"])) [(cK (kVar 0))])))) sSkip)
theorem e_is_integer (r r1 : Pl → Fn) : d_is_integer.body tb (tb.gt r (some r1)) = b_is_integer r r1 := by kernel_rfl
def b_is_within (r r1 : Pl → Fn) : SS := (sSeq (sIf (tNot (tV (cCall (r (("is_integer" : Str), none)) [] [] [(aV (cK (kVar 0)))]))) (sSeq (sRet (cP (pC (.bl false)))) sSkip) sSkip) (sSeq (sIf (tAnd (tB (cCmp .IsNot (cK (kVar 1)) (cP (pC .non)))) (tB (cCmp .Lt (cK (kVar 0)) (cK (kVar 1))))) (sSeq (sRet (cP (pC (.bl false)))) sSkip) sSkip) (sSeq (sRet (cOr (cCmp .Is (cK (kVar 2)) (cP (pC .non))) (cCmp .LtE (cK (kVar 0)) (cK (kVar 2))))) sSkip)))
theorem e_is_within (r r1 : Pl → Fn) : d_is_within.body tb (tb.gt r (some r1)) = b_is_within r r1 := by kernel_rfl
def b_is_sequence (r r1 : Pl → Fn) : SS := (sSeq (sRet (bV (one (isTs ["list", "tuple"])) [(cK (kVar 0))])) sSkip)
theorem e_is_sequence (r r1 : Pl → Fn) : d_is_sequence.body tb (tb.gt r (some r1)) = b_is_sequence r r1 := by kernel_rfl
def b_is_order (r r1 : Pl → Fn) : SS := (sSeq (sRet (cCmp .Eq (bK sortD (kVar 0)) (bV lstRange [(cK (kVar 1))]))) sSkip)
theorem e_is_order (r r1 : Pl → Fn) : d_is_order.body tb (tb.gt r (some r1)) = b_is_order r r1 := by kernel_rfl
def b_need (r r1 : Pl → Fn) : SS := (sSeq (sIf (tNot (tK (kVar 0))) (sSeq sFail sSkip) sSkip) sSkip)
theorem e_need (r r1 : Pl → Fn) : d_need.body tb (tb.gt r (some r1)) = b_need r r1 := by kernel_rfl
def b_need_integer (r r1 : Pl → Fn) : SS := (sSeq (sIf (tNot (tV (cCall (r (("is_within" : Str), none)) [] [] [(aV (cK (kVar 0))), (aV (cK (kVar 1))), (aV (cK (kVar 2)))]))) (sSeq sFail sSkip) sSkip) (sSeq (sRetV 0) sSkip))
theorem e_need_integer (r r1 : Pl → Fn) : d_need_integer.body tb (tb.gt r (some r1)) = b_need_integer r r1 := by kernel_rfl
def b_need_sequence (r r1 : Pl → Fn) : SS := (sSeq (sIf (tOr (tNot (tV (cCall (r (("is_sequence" : Str), none)) [] [] [(aV (cK (kVar 0)))]))) (tB (cCmp .Lt (cP (pLen (kVar 0))) (cK (kVar 1))))) (sSeq sFail sSkip) sSkip) (sSeq (sIf (tAnd (tB (cCmp .IsNot (cK (kVar 2)) (cP (pC .non)))) (tB (cCmp .Gt (cP (pLen (kVar 0))) (cK (kVar 2))))) (sSeq sFail sSkip) sSkip) (sSeq (sRet (bK tupD (kVar 0))) sSkip)))
theorem e_need_sequence (r r1 : Pl → Fn) : d_need_sequence.body tb (tb.gt r (some r1)) = b_need_sequence r r1 := by kernel_rfl
def l_need_integers_0 (r r1 : Pl → Fn) : SS := (sSeq (sIf (tNot (tV (cCall (r (("is_within" : Str), none)) [] [] [(aV (cK (kVar 7))), (aV (cK (kVar 3))), (aV (cK (kVar 4)))]))) (sSeq sFail sSkip) sSkip) sSkip)
def b_need_integers (r r1 : Pl → Fn) : SS := (sSeq (sAsg 6 (cCall (r (("need_sequence" : Str), none)) [] [] [(aV (cK (kVar 0))), (aV (cK (kVar 1))), (aV (cK (kVar 2))), (aV (cK (kVar 5)))])) (sSeq (sFor (iV (cK (kVar 6))) (.n 7) (l_need_integers_0 r r1)) (sSeq (sRetV 6) sSkip)))
theorem e_need_integers (r r1 : Pl → Fn) : d_need_integers.body tb (tb.gt r (some r1)) = b_need_integers r r1 := by kernel_rfl
def b_need_unlike (r r1 : Pl → Fn) : SS := (sSeq (sAsg 6 (cCall (r (("need_integers" : Str), none)) [] [] [(aV (cK (kVar 0))), (aV (cK (kVar 1))), (aV (cK (kVar 2))), (aV (cK (kVar 3))), (aV (cK (kVar 4))), (aV (cK (kVar 5)))])) (sSeq (sIf (tB (cCmp .Lt (bK lenSet (kVar 6)) (cP (pLen (kVar 6))))) (sSeq sFail sSkip) sSkip) (sSeq (sRetV 6) sSkip)))
theorem e_need_unlike (r r1 : Pl → Fn) : d_need_unlike.body tb (tb.gt r (some r1)) = b_need_unlike r r1 := by kernel_rfl
def b_check_club (r r1 : Pl → Fn) : SS := (sSeq (sRet (cCall (r (("need_integers" : Str), none)) [] [] [(aV (cK (kVar 0))), (aV (cK (fun _ => some (.val (.int (2)))))), (aV (cK (kVar 2))), (aV (cP (pC (.int 1)))), (aV (cK (fun _ => some (.val (.int (1000)))))), (aV (cK (kVar 1)))])) sSkip)
theorem e_check_club (r r1 : Pl → Fn) : d_check_club.body tb (tb.gt r (some r1)) = b_check_club r r1 := by kernel_rfl
def b_check_order (r r1 : Pl → Fn) : SS := (sSeq (sRet (cCall (r (("need_unlike" : Str), none)) [] [] [(aV (cK (kVar 0))), (aV (cP (pC (.int 0)))), (aV (cP (pC .non))), (aV (cP (pC (.int 0)))), (aV (cP (pC .non))), (aV (cK (kVar 1)))])) sSkip)
theorem e_check_order (r r1 : Pl → Fn) : d_check_order.body tb (tb.gt r (some r1)) = b_check_order r r1 := by kernel_rfl
def b_check_number (r r1 : Pl → Fn) : SS := (sSeq (sRet (cCall (r (("need_integer" : Str), none)) [] [] [(aV (cK (kVar 0))), (aV (cP (pC (.int 0)))), (aV (cP (pC .non))), (aV (cK (kVar 1)))])) sSkip)
theorem e_check_number (r r1 : Pl → Fn) : d_check_number.body tb (tb.gt r (some r1)) = b_check_number r r1 := by kernel_rfl
def b_meet_order (r r1 : Pl → Fn) : SS := (sSeq (sDrop (cCall (r (("need" : Str), none)) [] [] [(aV (cCall (r (("is_order" : Str), none)) [] [] [(aV (cK (kVar 1))), (aV (cP (pLen (kVar 0))))])), (aV (cK (kVar 2)))])) sSkip)
theorem e_meet_order (r r1 : Pl → Fn) : d_meet_order.body tb (tb.gt r (some r1)) = b_meet_order r r1 := by kernel_rfl
def b_meet_number (r r1 : Pl → Fn) : SS := (sSeq (sDrop (cCall (r (("need" : Str), none)) [] [] [(aV (cCmp .Lt (cK (kVar 1)) (cP (pLen (kVar 0))))), (aV (cK (kVar 2)))])) sSkip)
theorem e_meet_number (r r1 : Pl → Fn) : d_meet_number.body tb (tb.gt r (some r1)) = b_meet_number r r1 := by kernel_rfl
def l_stands_0 (r r1 : Pl → Fn) : SS := (sSeq (sAsg 10 (cK (kIdx (kVar 4) (pOf (kVar 9))))) (sSeq (sIdx (kVar 7) (pOf (kVar 10)) (cBin .Add (cK (kIdx (kVar 7) (pOf (kVar 10)))) (cK (kVar 6)))) sSkip))
def b_stands (r r1 : Pl → Fn) : SS := (sSeq (sAsg 3 (cCall (r (("check_club" : Str), none)) [] [7] [(aV (cK (kVar 0))), (aV (cP (pC (.int 0))))])) (sSeq (sAsg 4 (cCall (r (("check_order" : Str), none)) [] [] [(aV (cK (kVar 1))), (aV (cP (pC (.int 1))))])) (sSeq (sAsg 5 (cCall (r (("check_number" : Str), none)) [] [] [(aV (cK (kVar 2))), (aV (cP (pC (.int 2))))])) (sSeq (sDrop (cCall (r (("meet_order" : Str), none)) [] [] [(aV (cK (kVar 3))), (aV (cK (kVar 4))), (aV (cP (pC (.int 1))))])) (sSeq (sDrop (cCall (r (("meet_number" : Str), none)) [] [] [(aV (cK (kVar 3))), (aV (cK (kVar 5))), (aV (cP (pC (.int 2))))])) (sSeq (sAsg 6 (bK sumD (kVar 3))) (sSeq (sAsg 7 (cComp [8] (iV (cK (kVar 3))) (.n 8) tYes (cBin .Sub (cP (pC (.int 0))) (cBin .Mult (cK (kVar 8)) (cBin .Add (cK (kVar 5)) (cP (pC (.int 1)))))))) (sSeq (sFor (iRng [(cBin .Add (cK (kVar 5)) (cP (pC (.int 1))))]) (.n 9) (l_stands_0 r r1)) (sSeq (sRet (bK tupD (kVar 7))) sSkip)))))))))
theorem e_stands (r r1 : Pl → Fn) : d_stands.body tb (tb.gt r (some r1)) = b_stands r r1 := by kernel_rfl
def b_owed_behind (r r1 : Pl → Fn) : SS := (sSeq (sRet (bV (one tupD) [(cComp [3] (iV (cCall (r (("stands" : Str), none)) [] [] [(aV (cK (kVar 0))), (aV (cK (kVar 1))), (aV (cK (kVar 2)))])) (.n 3) tYes (cNeg (cK (kVar 3))))])) sSkip)
theorem e_owed_behind (r r1 : Pl → Fn) : d_owed_behind.body tb (tb.gt r (some r1)) = b_owed_behind r r1 := by kernel_rfl
def l_sheet_of_0 (r r1 : Pl → Fn) : SS := (sSeq (sApp 3 (cCall (r (("owed_behind" : Str), none)) [] [] [(aV (cK (kVar 0))), (aV (cK (kVar 1))), (aV (cK (kVar 4)))])) sSkip)
def b_sheet_of (r r1 : Pl → Fn) : SS := (sSeq (sAsg 2 (cCall (r (("owed_behind" : Str), none)) [] [] [(aV (cK (kVar 0))), (aV (cK (kVar 1))), (aV (cP (pC (.int 0))))])) (sSeq (sAsg 3 (cLst [(cK (kVar 2))])) (sSeq (sFor (iRng [(cP (pC (.int 1))), (cP (pLen (kVar 2)))]) (.n 4) (l_sheet_of_0 r r1)) (sSeq (sRet (cMake "DebtSheet" (r1 (("DebtSheet" : Str), some ("__init__" : Str))) [] [(aV (cK (kVar 3)))])) sSkip))))
theorem e_sheet_of (r r1 : Pl → Fn) : d_sheet_of.body tb (tb.gt r (some r1)) = b_sheet_of r r1 := by kernel_rfl
def b_DebtSheet___init__ (r r1 : Pl → Fn) : SS := (sSeq (sFld (Tb.gt tb r (some r1)).fa (kVar 0) "rows" (cK (kVar 1))) sSkip)
theorem e_DebtSheet___init__ (r r1 : Pl → Fn) : d_DebtSheet___init__.body tb (tb.gt r (some r1)) = b_DebtSheet___init__ r r1 := by kernel_rfl
def b_DebtSheet_many_rounds (r r1 : Pl → Fn) : SS := (sSeq (sRet (cP (pLen (kFld (kVar 0) "rows")))) sSkip)
theorem e_DebtSheet_many_rounds (r r1 : Pl → Fn) : d_DebtSheet_many_rounds.body tb (tb.gt r (some r1)) = b_DebtSheet_many_rounds r r1 := by kernel_rfl
def l_DebtSheet_is_even_0 (r r1 : Pl → Fn) : SS := (sSeq (sIf (tB (cCmp .Gt (cK (kVar 2)) (cP (pC (.int 0))))) (sSeq (sRet (cP (pC (.bl false)))) sSkip) sSkip) sSkip)
def b_DebtSheet_is_even (r r1 : Pl → Fn) : SS := (sSeq (sFor (iV (cK (kIdx (kFld (kVar 0) "rows") (pOf (kVar 1))))) (.n 2) (l_DebtSheet_is_even_0 r r1)) (sSeq (sRet (cP (pC (.bl true)))) sSkip))
theorem e_DebtSheet_is_even (r r1 : Pl → Fn) : d_DebtSheet_is_even.body tb (tb.gt r (some r1)) = b_DebtSheet_is_even r r1 := by kernel_rfl
def l_DebtSheet_even_rounds_0 (r r1 : Pl → Fn) : SS := (sSeq (sIf (tV (cMeth "is_even" (mt_is_even_1 r) (aL 0) [(aV (cK (kVar 2)))])) (sSeq (sApp 1 (cK (kVar 2))) sSkip) sSkip) sSkip)
def b_DebtSheet_even_rounds (r r1 : Pl → Fn) : SS := (sSeq (sAsg 1 (cLst [])) (sSeq (sFor (iRng [(cMeth "many_rounds" (mt_many_rounds_0 r) (aL 0) [])]) (.n 2) (l_DebtSheet_even_rounds_0 r r1)) (sSeq (sRet (bK tupD (kVar 1))) sSkip)))
theorem e_DebtSheet_even_rounds (r r1 : Pl → Fn) : d_DebtSheet_even_rounds.body tb (tb.gt r (some r1)) = b_DebtSheet_even_rounds r r1 := by kernel_rfl
def b_DebtSheet_debt (r r1 : Pl → Fn) : SS := (sSeq (sRet (bV maxL [(cP (pC (.int 0))), (cNeg (cK (kIdx (kIdx (kFld (kVar 0) "rows") (pOf (kVar 2))) (pOf (kVar 1)))))])) sSkip)
theorem e_DebtSheet_debt (r r1 : Pl → Fn) : d_DebtSheet_debt.body tb (tb.gt r (some r1)) = b_DebtSheet_debt r r1 := by kernel_rfl
def b_DebtSheet_debts_of (r r1 : Pl → Fn) : SS := (sSeq (sRet (cComp [2] (iRng [(cMeth "many_rounds" (mt_many_rounds_0 r) (aL 0) [])]) (.n 2) tYes (cMeth "debt" (mt_debt_2 r) (aL 0) [(aV (cK (kVar 1))), (aV (cK (kVar 2)))]))) sSkip)
theorem e_DebtSheet_debts_of (r r1 : Pl → Fn) : d_DebtSheet_debts_of.body tb (tb.gt r (some r1)) = b_DebtSheet_debts_of r r1 := by kernel_rfl
def b_DebtSheet_deepest (r r1 : Pl → Fn) : SS := (sSeq (sAsg 2 (cMeth "debts_of" (mt_debts_of_1 r) (aL 0) [(aV (cK (kVar 1)))])) (sSeq (sAsg 3 (bK maxD (kVar 2))) (sSeq (sRet (cTup [(cK (kVar 3)), (mK "index" (kVar 2) [(pOf (kVar 3))])])) sSkip)))
theorem e_DebtSheet_deepest (r r1 : Pl → Fn) : d_DebtSheet_deepest.body tb (tb.gt r (some r1)) = b_DebtSheet_deepest r r1 := by kernel_rfl
def l_DebtSheet_greatest_0 (r r1 : Pl → Fn) : SS := (sSeq (sTgt (.t [(.n 3), (.n 4)]) (cMeth "deepest" (mt_deepest_1 r) (aL 0) [(aV (cK (kVar 2)))])) (sSeq (sIf (tOr (tB (cCmp .Is (cK (kVar 1)) (cP (pC .non)))) (tB (cCmp .Gt (cK (kVar 3)) (cK (kIdx (kVar 1) (pC (.int 0))))))) (sSeq (sAsg 1 (cTup [(cK (kVar 3)), (cK (kVar 2)), (cK (kVar 4))])) sSkip) sSkip) sSkip))
def b_DebtSheet_greatest (r r1 : Pl → Fn) : SS := (sSeq (sAsg 1 (cP (pC .non))) (sSeq (sFor (iRng [(cMeth "many_rounds" (mt_many_rounds_0 r) (aL 0) [])]) (.n 2) (l_DebtSheet_greatest_0 r r1)) (sSeq (sRetV 1) sSkip)))
theorem e_DebtSheet_greatest (r r1 : Pl → Fn) : d_DebtSheet_greatest.body tb (tb.gt r (some r1)) = b_DebtSheet_greatest r r1 := by kernel_rfl
def l_are_owed_0 (r r1 : Pl → Fn) : SS := (sSeq (sIf (tB (cCmp .NotEq (cK (kIdx (kVar 3) (pOf (kVar 6)))) (cBin .Sub (cBin .Mult (cK (kVar 7)) (cBin .Add (cK (kVar 2)) (cP (pC (.int 1))))) (cBin .Mult (cK (kVar 4)) (mK "count" (kVar 5) [(pOf (kVar 6))]))))) (sSeq (sRet (cP (pC (.bl false)))) sSkip) sSkip) sSkip)
def b_are_owed (r r1 : Pl → Fn) : SS := (sSeq (sAsg 4 (bK sumD (kVar 0))) (sSeq (sAsg 5 (cSl (bK lstD (kVar 1)) none (some (cBin .Add (cK (kVar 2)) (cP (pC (.int 1))))))) (sSeq (sFor (iEnum (cK (kVar 0))) (.t [(.n 6), (.n 7)]) (l_are_owed_0 r r1)) (sSeq (sRet (cCmp .Eq (cP (pLen (kVar 3))) (cP (pLen (kVar 0))))) sSkip))))
theorem e_are_owed (r r1 : Pl → Fn) : d_are_owed.body tb (tb.gt r (some r1)) = b_are_owed r r1 := by kernel_rfl
def l_is_greatest_0 (r r1 : Pl → Fn) : SS := (sSeq (sAsg 9 (cOr (cCmp .Lt (cK (kVar 7)) (cK (kVar 3))) (cAnd (cCmp .Eq (cK (kVar 7)) (cK (kVar 3))) (cCmp .Lt (cK (kVar 5)) (cK (kVar 4)))))) (sSeq (sIf (tOr (tB (cCmp .Lt (cK (kVar 8)) (cNeg (cK (kVar 2))))) (tAnd (tK (kVar 9)) (tB (cCmp .Eq (cK (kVar 8)) (cNeg (cK (kVar 2))))))) (sSeq (sRet (cP (pC (.bl false)))) sSkip) sSkip) sSkip))
def l_is_greatest_1 (r r1 : Pl → Fn) : SS := (sSeq (sFor (iEnum (cK (kVar 6))) (.t [(.n 7), (.n 8)]) (l_is_greatest_0 r r1)) sSkip)
def b_is_greatest (r r1 : Pl → Fn) : SS := (sSeq (sTgt (.t [(.n 2), (.n 3), (.n 4)]) (cK (kVar 1))) (sSeq (sIf (tOr (tB (cCmp .LtE (cK (kVar 2)) (cP (pC (.int 0))))) (tB (cCmp .NotEq (cK (kIdx (kIdx (kVar 0) (pOf (kVar 4))) (pOf (kVar 3)))) (cNeg (cK (kVar 2)))))) (sSeq (sRet (cP (pC (.bl false)))) sSkip) sSkip) (sSeq (sFor (iEnum (cK (kVar 0))) (.t [(.n 5), (.n 6)]) (l_is_greatest_1 r r1)) (sSeq (sRet (cP (pC (.bl true)))) sSkip))))
theorem e_is_greatest (r r1 : Pl → Fn) : d_is_greatest.body tb (tb.gt r (some r1)) = b_is_greatest r r1 := by kernel_rfl
def b_owed_now (r r1 : Pl → Fn) : SS := (sSeq (sAsg 3 (cCall (r (("owed_behind" : Str), none)) [] [] [(aV (cK (kVar 0))), (aV (cK (kVar 1))), (aV (cK (kVar 2)))])) (sSeq (sAssert (tV (cCall (r (("are_owed" : Str), none)) [] [] [(aV (cK (kVar 0))), (aV (cK (kVar 1))), (aV (cK (kVar 2))), (aV (cK (kVar 3)))]))) (sSeq (sRetV 3) sSkip)))
theorem e_owed_now (r r1 : Pl → Fn) : d_owed_now.body tb (tb.gt r (some r1)) = b_owed_now r r1 := by kernel_rfl
def b_fair_end (r r1 : Pl → Fn) : SS := (sSeq (sRet (cMeth "even_rounds" (mt_even_rounds_0 r) (aV (cCall (r (("sheet_of" : Str), none)) [] [] [(aV (cK (kVar 0))), (aV (cK (kVar 1)))])) [])) sSkip)
theorem e_fair_end (r r1 : Pl → Fn) : d_fair_end.body tb (tb.gt r (some r1)) = b_fair_end r r1 := by kernel_rfl
def b_greatest_debt (r r1 : Pl → Fn) : SS := (sSeq (sAsg 2 (cCall (r (("sheet_of" : Str), none)) [] [] [(aV (cK (kVar 0))), (aV (cK (kVar 1)))])) (sSeq (sAsg 3 (cMeth "greatest" (mt_greatest_0 r) (aL 2) [])) (sSeq (sAssert (tV (cCall (r (("is_greatest" : Str), none)) [] [] [(aV (cK (kFld (kVar 2) "rows"))), (aV (cK (kVar 3)))]))) (sSeq (sRetV 3) sSkip))))
theorem e_greatest_debt (r r1 : Pl → Fn) : d_greatest_debt.body tb (tb.gt r (some r1)) = b_greatest_debt r r1 := by kernel_rfl
def l__law_numbers_0 (r r1 : Pl → Fn) : SS := (sSeq (sIf (tB (cCmp .Eq (cK (kVar 3)) (cP (pC (.int 0))))) (sSeq sBreak sSkip) sSkip) (sSeq (sApp 1 (cBin .Mod (bV intL [(cK (kVar 3))]) (cP (pC (.int 997))))) (sSeq (sAsg 3 (cBin .FloorDiv (cK (kVar 3)) (cP (pC (.int 997))))) sSkip)))
def l__law_numbers_1 (r r1 : Pl → Fn) : SS := (sSeq (sAsg 5 (cBin .Mod (bV intL [(cBin .Add (cBin .Add (cBin .Mult (cK (kVar 2)) (cP (pC (.int 48271)))) (cBin .Mult (cK (kVar 4)) (cP (pC (.int 69621))))) (cP (pC (.int 11))))]) (cP (pC (.int 2147483647))))) (sSeq (sApp 1 (cBin .Mod (bV intL [(cBin .Add (cBin .Mult (cK (kVar 5)) (cP (pC (.int 16807)))) (cK (kVar 4)))]) (cP (pC (.int 2147483629))))) sSkip))
def l__law_numbers_2 (r r1 : Pl → Fn) : SS := (sSeq (sIf (tB (cCmp .GtE (cK (kVar 2)) (cBin .Pow (cP (pC (.int 10))) (cP (pC (.int 18)))))) (sSeq (sAsg 3 (cK (kVar 2))) (sSeq (sFor (iRng [(cP (pC (.int 60)))]) (.n 4) (l__law_numbers_0 r r1)) sSkip)) (sSeq (sFor (iRng [(cP (pC (.int 4)))]) (.n 4) (l__law_numbers_1 r r1)) sSkip)) sSkip)
def b__law_numbers (r r1 : Pl → Fn) : SS := (sSeq (sAsg 1 (cLst [])) (sSeq (sFor (iV (cSl (cK (kVar 0)) none (some (cP (pC (.int 63)))))) (.n 2) (l__law_numbers_2 r r1)) (sSeq (sIf (tB (cCmp .Eq (cP (pLen (kVar 1))) (cP (pC (.int 0))))) (sSeq (sApp 1 (cP (pC (.int 0)))) sSkip) sSkip) (sSeq (sRetV 1) sSkip))))
theorem e__law_numbers (r r1 : Pl → Fn) : d__law_numbers.body tb (tb.gt r (some r1)) = b__law_numbers r r1 := by kernel_rfl
def b__law_draw (r r1 : Pl → Fn) : SS := (sSeq (sIf (tB (cCmp .Lt (cK (kVar 1)) (cP (pLen (kVar 0))))) (sSeq (sRet (cBin .Mod (bV intL [(cK (kIdx (kVar 0) (pOf (kVar 1))))]) (cK (kVar 2)))) sSkip) sSkip) (sSeq (sAsg 3 (cBin .Mod (bV intL [(cBin .Add (cBin .Add (cBin .Mult (cIxV 0 (cBin .Mod (bV intL [(cK (kVar 1))]) (cP (pLen (kVar 0))))) (cP (pC (.int 40692)))) (cBin .Mult (cK (kVar 1)) (cP (pC (.int 7919))))) (cP (pC (.int 3))))]) (cP (pC (.int 2147483399))))) (sSeq (sRet (cBin .Mod (bV intL [(cBin .Mod (bV intL [(cBin .Add (cBin .Mult (cK (kVar 3)) (cP (pC (.int 48271)))) (cK (kVar 1)))]) (cP (pC (.int 2147483647))))]) (cK (kVar 2)))) sSkip)))
theorem e__law_draw (r r1 : Pl → Fn) : d__law_draw.body tb (tb.gt r (some r1)) = b__law_draw r r1 := by kernel_rfl
def b__law_take (r r1 : Pl → Fn) : SS := (sSeq (sIdx (kVar 1) (pC (.int 0)) (cBin .Add (cK (kIdx (kVar 1) (pC (.int 0)))) (cP (pC (.int 1))))) (sSeq (sRet (cCall (r (("_law_draw" : Str), none)) [] [] [(aV (cK (kVar 0))), (aV (cBin .Sub (cK (kIdx (kVar 1) (pC (.int 0)))) (cP (pC (.int 1))))), (aV (cK (kVar 2)))])) sSkip))
theorem e__law_take (r r1 : Pl → Fn) : d__law_take.body tb (tb.gt r (some r1)) = b__law_take r r1 := by kernel_rfl
def b__law_pick (r r1 : Pl → Fn) : SS := (sSeq (sRet (cIxV 2 (cCall (r (("_law_take" : Str), none)) [1] [] [(aV (cK (kVar 0))), (aL 1), (aV (cP (pLen (kVar 2))))]))) sSkip)
theorem e__law_pick (r r1 : Pl → Fn) : d__law_pick.body tb (tb.gt r (some r1)) = b__law_pick r r1 := by kernel_rfl
def l__law_figure_0 (r r1 : Pl → Fn) : SS := (sSeq (sAsg 6 (cCall (r (("_law_pick" : Str), none)) [1] [] [(aV (cK (kVar 0))), (aL 1), (aV (cK (kVar 3)))])) (sSeq (sApp 5 (cK (kVar 6))) (sSeq (sAsg 3 (cComp [7] (iV (cK (kVar 3))) (.n 7) (tB (cCmp .NotEq (cK (kVar 7)) (cK (kVar 6)))) (cK (kVar 7)))) sSkip)))
def b__law_figure (r r1 : Pl → Fn) : SS := (sSeq (sAsg 3 (cComp [4] (iRng [(cK (kVar 2))]) (.n 4) tYes (cK (kVar 4)))) (sSeq (sAsg 5 (cLst [])) (sSeq (sFor (iRng [(cK (kVar 2))]) (.n 4) (l__law_figure_0 r r1)) (sSeq (sRet (bK tupD (kVar 5))) sSkip))))
theorem e__law_figure (r r1 : Pl → Fn) : d__law_figure.body tb (tb.gt r (some r1)) = b__law_figure r r1 := by kernel_rfl
def b__law_club (r r1 : Pl → Fn) : SS := (sSeq (sAsg 3 (cCall (r (("_law_pick" : Str), none)) [1] [] [(aV (cK (kVar 0))), (aL 1), (aV (cLst [(cP (pC (.int 1))), (cP (pC (.int 5))), (cP (pC (.int 40))), (cP (pC (.int 997)))]))])) (sSeq (sRet (bV (one tupD) [(cComp [4] (iRng [(cBin .Add (cP (pC (.int 2))) (cCall (r (("_law_take" : Str), none)) [1] [] [(aV (cK (kVar 0))), (aL 1), (aV (cBin .Sub (cK (kVar 2)) (cP (pC (.int 1)))))]))]) (.n 4) tYes (cBin .Add (cP (pC (.int 1))) (cCall (r (("_law_take" : Str), none)) [1] [] [(aV (cK (kVar 0))), (aL 1), (aV (cK (kVar 3)))])))])) sSkip))
theorem e__law_club (r r1 : Pl → Fn) : d__law_club.body tb (tb.gt r (some r1)) = b__law_club r r1 := by kernel_rfl
def l_law_0 (r r1 : Pl → Fn) : SS := (sSeq (sAsg 14 (cCmp .LtE (mK "index" (kVar 5) [(pOf (kVar 12))]) (cK (kVar 8)))) (sSeq (sIf (tB (cCmp .NotEq (cK (kIdx (kVar 9) (pOf (kVar 12)))) (cBin .Sub (cBin .Mult (cK (kIdx (kVar 3) (pOf (kVar 12)))) (cBin .Add (cK (kVar 8)) (cP (pC (.int 1))))) (cIf (tK (kVar 14)) (bK sumD (kVar 3)) (cP (pC (.int 0))))))) (sSeq (sRet (cP (pC (.bl false)))) sSkip) sSkip) sSkip))
def l_law_1 (r r1 : Pl → Fn) : SS := (sSeq (sAsg 13 (cTup [(cK (kIdx (kVar 9) (pOf (kVar 12)))), (cK (kVar 12)), (cK (kVar 8))])) (sSeq (sAsg 6 (cIf (tOr (tB (cCmp .Is (cK (kVar 6)) (cP (pC .non)))) (tB (cCmp .Lt (cK (kVar 13)) (cK (kVar 6))))) (cK (kVar 13)) (cK (kVar 6)))) sSkip))
def l_law_2 (r r1 : Pl → Fn) : SS := (sSeq (sAsg 9 (cCall (r (("owed_now" : Str), none)) [] [] [(aV (cK (kVar 3))), (aV (cK (kVar 5))), (aV (cK (kVar 8)))])) (sSeq (sAsg 10 (cCall (r (("stands" : Str), none)) [] [] [(aV (cK (kVar 3))), (aV (cK (kVar 5))), (aV (cK (kVar 8)))])) (sSeq (sIf (tOr (tB (cCmp .NotEq (cK (kVar 9)) (bV (one tupD) [(cComp [11] (iV (cK (kVar 10))) (.n 11) tYes (cNeg (cK (kVar 11))))]))) (tB (cCmp .NotEq (bK sumD (kVar 9)) (cP (pC (.int 0)))))) (sSeq (sRet (cP (pC (.bl false)))) sSkip) sSkip) (sSeq (sIf (tB (cCmp .Eq (bV (one lenD) [(cComp [11] (iV (cK (kVar 9))) (.n 11) (tB (cCmp .NotEq (cK (kVar 11)) (cP (pC (.int 0))))) (cK (kVar 11)))]) (cP (pC (.int 0))))) (sSeq (sApp 7 (cK (kVar 8))) sSkip) sSkip) (sSeq (sFor (iRng [(cK (kVar 4))]) (.n 12) (l_law_1 r r1)) (sSeq (sFor (iRng [(cK (kVar 4))]) (.n 12) (l_law_0 r r1)) sSkip))))))
def b_law (r r1 : Pl → Fn) : SS := (sSeq (sAsg 1 (cCall (r (("_law_numbers" : Str), none)) [] [] [(aV (cK (kVar 0)))])) (sSeq (sAsg 2 (cLst [(cP (pC (.int 0)))])) (sSeq (sAsg 3 (cCall (r (("_law_club" : Str), none)) [1] [] [(aV (cK (kVar 1))), (aL 2), (aV (cP (pC (.int 7))))])) (sSeq (sAsg 4 (cP (pLen (kVar 3)))) (sSeq (sAsg 5 (cCall (r (("_law_figure" : Str), none)) [1] [] [(aV (cK (kVar 1))), (aL 2), (aV (cK (kVar 4)))])) (sSeq (sAsg 6 (cP (pC .non))) (sSeq (sAsg 7 (cLst [])) (sSeq (sFor (iRng [(cK (kVar 4))]) (.n 8) (l_law_2 r r1)) (sSeq (sIf (tOr (tB (cCmp .NotEq (cCall (r (("fair_end" : Str), none)) [] [] [(aV (cK (kVar 3))), (aV (cK (kVar 5)))]) (bK tupD (kVar 7)))) (tB (cCmp .NotEq (cCall (r (("greatest_debt" : Str), none)) [] [] [(aV (cK (kVar 3))), (aV (cK (kVar 5)))]) (cTup [(cNeg (cK (kIdx (kVar 6) (pC (.int 0))))), (cK (kIdx (kVar 6) (pC (.int 1)))), (cK (kIdx (kVar 6) (pC (.int 2))))])))) (sSeq (sRet (cP (pC (.bl false)))) sSkip) sSkip) (sSeq (sAsg 15 (cCall (r (("_law_figure" : Str), none)) [1] [] [(aV (cK (kVar 1))), (aL 2), (aV (cK (kVar 4)))])) (sSeq (sAsg 16 (bV (one tupD) [(cComp [17] (iV (cK (kVar 15))) (.n 17) tYes (cK (kIdx (kVar 3) (pOf (kVar 17)))))])) (sSeq (sAsg 18 (bV (one tupD) [(cComp [12] (iV (cK (kVar 5))) (.n 12) tYes (mK "index" (kVar 15) [(pOf (kVar 12))]))])) (sSeq (sIf (tOr (tB (cCmp .NotEq (cIx (cCall (r (("greatest_debt" : Str), none)) [] [] [(aV (cK (kVar 16))), (aV (cK (kVar 18)))]) (cP (pC (.int 0)))) (cNeg (cK (kIdx (kVar 6) (pC (.int 0))))))) (tB (cCmp .NotEq (cCall (r (("fair_end" : Str), none)) [] [] [(aV (cK (kVar 16))), (aV (cK (kVar 18)))]) (bK tupD (kVar 7))))) (sSeq (sRet (cP (pC (.bl false)))) sSkip) sSkip) (sSeq (sIf (tB (cCmp .LtE (bK maxD (kVar 3)) (cP (pC (.int 500))))) (sSeq (sAsg 19 (bV (one tupD) [(cComp [11] (iV (cK (kVar 3))) (.n 11) tYes (cBin .Mult (cP (pC (.int 2))) (cK (kVar 11))))])) (sSeq (sIf (tOr (tB (cCmp .NotEq (cCall (r (("greatest_debt" : Str), none)) [] [] [(aV (cK (kVar 19))), (aV (cK (kVar 5)))]) (cTup [(cBin .Mult (cNeg (cP (pC (.int 2)))) (cK (kIdx (kVar 6) (pC (.int 0))))), (cK (kIdx (kVar 6) (pC (.int 1)))), (cK (kIdx (kVar 6) (pC (.int 2))))]))) (tB (cCmp .NotEq (cCall (r (("fair_end" : Str), none)) [] [] [(aV (cK (kVar 19))), (aV (cK (kVar 5)))]) (bK tupD (kVar 7))))) (sSeq (sRet (cP (pC (.bl false)))) sSkip) sSkip) sSkip)) sSkip) (sSeq (sAsg 20 (cBin .Mult (cTup [(cK (kIdx (kVar 3) (pC (.int 0))))]) (cK (kVar 4)))) (sSeq (sRet (cAnd (cCmp .Eq (cCall (r (("fair_end" : Str), none)) [] [] [(aV (cK (kVar 20))), (aV (cK (kVar 5)))]) (cTup [(cBin .Sub (cK (kVar 4)) (cP (pC (.int 1))))])) (cCmp .Eq (cCall (r (("greatest_debt" : Str), none)) [] [] [(aV (cK (kVar 20))), (aV (cK (kVar 5)))]) (cTup [(cBin .Mult (cK (kIdx (kVar 3) (pC (.int 0)))) (cBin .Sub (cK (kVar 4)) (cP (pC (.int 1))))), (cK (kIdx (kVar 5) (pC (.int 0)))), (cP (pC (.int 0)))])))) sSkip))))))))))))))))
theorem e_law (r r1 : Pl → Fn) : d_law.body tb (tb.gt r (some r1)) = b_law r r1 := by kernel_rfl
end Tw
set_option Elab.async false
set_option linter.all false
set_option maxRecDepth 100000
set_option maxHeartbeats 1000000
/-! Plain steps: what the combinators give, by rewriting. -/
namespace Ev
open PySem

theorem run_at {T : Tb} {k : Nat} {p : Pl} {d : Fd} (h : T.find p = some d) : run T (k + 2) p = runF (d.body T (T.gt (run T (k + 1)) (some (run T k)))) d.N.length d.ps.length d.mu := by
  show (match T.find p with | some d => _ | none => _) = _
  rw [h]
  rfl
@[simp] theorem x_cP (q : SP) (e : Env) : cP q e = match q e with | some x => some (.d x, e) | none => none := rfl
@[simp] theorem x_pC (x : D) (e : Env) : pC x e = some x := rfl
@[simp] theorem x_kVar (i : Nat) (e : Env) : kVar i e = match e.slot i with | some (.d x) => some (.val x) | some _ => some (.at i []) | none => none := rfl
@[simp] theorem x_slot (i : Nat) (e : Env) : e.slot i = match e[i]? with | some (some m) => some m | _ => none := rfl
@[simp] theorem x_cK (k : SK) (e : Env) : cK k e = match k e with
  | some (.val x) => some (.d x, e)
  | some (.at i p) => match e.at i p with
    | some m => some (.d m.fz, e.putAt i p (.d m.fz))
    | none => none
  | none => none := rfl
@[simp] theorem x_cBin (op : Operator) (a b : SE) (e : Env) : cBin op a b e = match a e with
  | some (x, e1) => match b e1 with
    | some (y, e2) => match binV op x.fz y.fz with | some z => some (z, e2) | none => none
    | none => none
  | none => none := rfl
@[simp] theorem x_cNeg (a : SE) (e : Env) : cNeg a e = match a e with
  | some (.d (.int x), e1) => some (.d (.int (-x)), e1)
  | _ => none := rfl
@[simp] theorem x_cCmp (op : CmpOp) (a b : SE) (e : Env) : cCmp op a b e = match a e with
  | some (x, e1) => match b e1 with
    | some (y, e2) => match cmpD op x.fz y.fz with | some z => some (.d (.bl z), e2) | none => none
    | none => none
  | none => none := rfl
@[simp] theorem x_cAnd (a b : SE) (e : Env) : cAnd a b e = match a e with
  | some (.d (.bl x), e1) => if x then b e1 else some (.d (.bl false), e1)
  | _ => none := rfl
@[simp] theorem x_cOr (a b : SE) (e : Env) : cOr a b e = match a e with
  | some (.d (.bl x), e1) => if x then some (.d (.bl true), e1) else b e1
  | _ => none := rfl
@[simp] theorem x_cNot (a : SE) (e : Env) : cNot a e = match a e with
  | some (.d (.bl x), e1) => some (.d (.bl (!x)), e1)
  | _ => none := rfl
@[simp] theorem x_cIf (t : ST) (a b : SE) (e : Env) : cIf t a b e = match t e with
  | some (x, e1) => if x then a e1 else b e1
  | none => none := rfl
@[simp] theorem x_evL0 (e : Env) : evL [] e = some ([], e) := rfl
@[simp] theorem x_evL1 (c : SE) (r : List SE) (e : Env) : evL (c :: r) e = match c e with
    | some (m, e1) => match evL r e1 with | some (ms, e2) => some (m :: ms, e2) | none => none
    | none => none := rfl
@[simp] theorem x_cTup (cs : List SE) (e : Env) : cTup cs e = match evL cs e with
  | some (ms, e1) => if ms.length ≤ line then some (.d (.tup (M.fzs ms)), e1) else none
  | none => none := rfl
@[simp] theorem x_cLst (cs : List SE) (e : Env) : cLst cs e = match evL cs e with
  | some (ms, e1) => if ms.length ≤ line then some (.lst ms, e1) else none
  | none => none := rfl
@[simp] theorem x_bK (f : D → Option M) (k : SK) (e : Env) : bK f k e = match k e with
  | some v => match v.read e with
    | some x => match f x with | some m => some (m, e) | none => none
    | none => none
  | none => none := rfl
@[simp] theorem x_bV (f : List D → Option M) (cs : List SE) (e : Env) : bV f cs e = match evL cs e with
  | some (ms, e1) => match f (M.fzs ms) with | some m => some (m, e1) | none => none
  | none => none := rfl
@[simp] theorem x_one (f : D → Option M) (x : D) : one f [x] = f x := rfl
@[simp] theorem x_tV (c : SE) (e : Env) : tV c e = match c e with
  | some (m, e1) => match truth m.fz with | some b => some (b, e1) | none => none
  | none => none := rfl
@[simp] theorem x_tB (c : SE) (e : Env) : tB c e = match c e with
  | some (.d (.bl b), e1) => some (b, e1)
  | _ => none := rfl
@[simp] theorem x_tK (k : SK) (e : Env) : tK k e = match k e with
  | some v => match v.read e with
    | some x => match truth x with | some b => some (b, e) | none => none
    | none => none
  | none => none := rfl
@[simp] theorem x_tAnd (a b : ST) (e : Env) : tAnd a b e = match a e with
  | some (x, e1) => if x then b e1 else some (false, e1)
  | none => none := rfl
@[simp] theorem x_tOr (a b : ST) (e : Env) : tOr a b e = match a e with
  | some (x, e1) => if x then some (true, e1) else b e1
  | none => none := rfl
@[simp] theorem x_tNot (a : ST) (e : Env) : tNot a e = match a e with
  | some (x, e1) => some (!x, e1)
  | none => none := rfl
@[simp] theorem x_tYes (e : Env) : tYes e = some (true, e) := rfl
@[simp] theorem x_aV (c : SE) (e : Env) : aV c e = match c e with | some (m, e1) => some (.m m, e1) | none => none := rfl
@[simp] theorem x_aL (i : Nat) (e : Env) : aL i e = match e.slot i with
  | some (.d x) => some (.m (.d x), e)
  | some _ => some (.lend i, e)
  | none => none := rfl
@[simp] theorem x_evA0 (e : Env) : evA [] e = some ([], e) := rfl
@[simp] theorem x_evA1 (a : SA) (r : List SA) (e : Env) : evA (a :: r) e = match a e with
    | some (v, e1) => match evA r e1 with | some (vs, e2) => some (v :: vs, e2) | none => none
    | none => none := rfl
@[simp] theorem x_takeA0 (e : Env) : takeA [] e = some ([], e) := rfl
@[simp] theorem x_takeAm (m : M) (r : List AV) (e : Env) : takeA (.m m :: r) e = match takeA r e with | some (ms, e1) => some (m :: ms, e1) | none => none := rfl
@[simp] theorem x_takeAl (i : Nat) (r : List AV) (e : Env) : takeA (.lend i :: r) e = match e.slot i with
    | some m => match takeA r (e.set i none) with | some (ms, e1) => some (m :: ms, e1) | none => none
    | none => none := rfl
@[simp] theorem x_back0 (avs : List AV) (os : List M) (e : Env) : backA avs [] os e = e := by cases os <;> rfl
@[simp] theorem x_back1 (avs : List AV) (j : Nat) (mu : List Nat) (o : M) (os : List M) (e : Env) : backA avs (j :: mu) (o :: os) e = match avs[j]? with
    | some (.lend i) => backA avs mu os (e.set i (some o))
    | _ => backA avs mu os e := rfl
@[simp] theorem x_cCall (r : Fn) (mu : List Nat) (dn : List Int) (as : List SA) (e : Env) : cCall r mu dn as e = match evA as e with
  | none => none
  | some (avs, e1) => match takeA avs e1 with
    | none => none
    | some (ms, e2) => match r (ms ++ dn.map fun i => .d (.int i)) with
      | some (m, os) => some (m, backA avs mu os e2)
      | none => none := rfl
@[simp] theorem x_sSkip (e : Env) : sSkip e = some (.nx e) := rfl
@[simp] theorem x_sFail (e : Env) : sFail e = none := rfl
@[simp] theorem x_sSeq (a b : SS) (e : Env) : sSeq a b e = match a e with
  | some (.nx e1) => b e1
  | r => r := rfl
@[simp] theorem x_sDrop (c : SE) (e : Env) : sDrop c e = match c e with | some (_, e1) => some (.nx e1) | none => none := rfl
@[simp] theorem x_sAsg (i : Nat) (c : SE) (e : Env) : sAsg i c e = match c e with | some (m, e1) => some (.nx (e1.set i (some m))) | none => none := rfl
@[simp] theorem x_sTgt (g : Tg) (c : SE) (e : Env) : sTgt g c e = match c e with
  | some (m, e1) => match g.set m.fz e1 with | some e2 => some (.nx e2) | none => none
  | none => none := rfl
@[simp] theorem x_sIf (t : ST) (a b : SS) (e : Env) : sIf t a b e = match t e with
  | some (x, e1) => if x then a e1 else b e1
  | none => none := rfl
@[simp] theorem x_sRet (c : SE) (e : Env) : sRet c e = match c e with | some (m, e1) => some (.rt m e1) | none => none := rfl
@[simp] theorem x_sRetN (e : Env) : sRetN e = some (.rt (.d .non) e) := rfl
@[simp] theorem x_sRetV (i : Nat) (e : Env) : sRetV i e = match e.slot i with | some m => some (.rt m (e.set i none)) | none => none := rfl
@[simp] theorem x_sAssert (t : ST) (e : Env) : sAssert t e = match t e with | some (true, e1) => some (.nx e1) | _ => none := rfl
@[simp] theorem x_fzd (x : D) : (M.d x).fz = x := by simp [M.fz]
@[simp] theorem x_fz0 : M.fzs [] = [] := by simp [M.fzs]
@[simp] theorem x_fz1 (x : M) (r : List M) : M.fzs (x :: r) = x.fz :: M.fzs r := by simp [M.fzs]
@[simp] theorem x_runF (f : SS) (n np : Nat) (mu : List Nat) (ms : List M) : runF f n np mu ms = if ms.length = np then
    match f (startE n ms) with
    | some (.nx e) => match takeO mu e with | some os => some (.d .non, os) | none => none
    | some (.rt m e) => match takeO mu e with | some os => some (m, os) | none => none
    | _ => none
  else none := rfl
@[simp] theorem x_takeO0 (e : Env) : takeO [] e = some [] := rfl
@[simp] theorem x_takeO1 (j : Nat) (mu : List Nat) (e : Env) : takeO (j :: mu) e = match e.slot j with
    | some m => match takeO mu (e.set j none) with | some ms => some (m :: ms) | none => none
    | none => none := rfl
@[simp] theorem x_start (n : Nat) (ms : List M) : startE n ms = ms.map some ++ List.replicate (n - ms.length) none := rfl
@[simp] theorem x_cmpLt (a b : Int) : cmpD .Lt (.int a) (.int b) = some (decide (a < b)) := rfl
@[simp] theorem x_cmpLe (a b : Int) : cmpD .LtE (.int a) (.int b) = some (decide (a ≤ b)) := rfl
@[simp] theorem x_cmpGt (a b : Int) : cmpD .Gt (.int a) (.int b) = some (decide (b < a)) := rfl
@[simp] theorem x_cmpGe (a b : Int) : cmpD .GtE (.int a) (.int b) = some (decide (b ≤ a)) := rfl
@[simp] theorem x_cmpIs (x : D) : cmpD .Is x .non = some (match x with | .non => true | _ => false) := rfl
@[simp] theorem x_cmpIsN (x : D) : cmpD .IsNot x .non = some (match x with | .non => false | _ => true) := rfl
end Ev
set_option Elab.async false
set_option linter.all false
set_option maxRecDepth 100000
set_option maxHeartbeats 1000000
/-! Whole numbers in rows: what the built-ins answer. -/
namespace Ev
open PySem PySem.W

/-- rows of whole numbers -/
abbrev rowI (xs : List Int) : List D := xs.map .int
theorem pys_i : ∀ xs : List Int, D.pys (xs.map .int) = some (xs.map .int)
  | [] => by simp [D.pys]
  | x :: r => by simp [D.pys, D.py, pys_i r]
theorem ofPys_i : ∀ xs : List Int, ofPys (xs.map .int) = xs.map .int
  | [] => by simp [ofPys]
  | x :: r => by simp [ofPys, ofPy, ofPys_i r]
theorem plain_i : ∀ xs : List Int, PyData.plainAll (xs.map .int) = true
  | [] => by simp [PyData.plainAll]
  | x :: r => by simp [PyData.plainAll, PyData.plain, plain_i r]
theorem depth_i : ∀ xs : List Int, PyData.depthAll (xs.map .int) = 0
  | [] => by simp [PyData.depthAll]
  | x :: r => by simp [PyData.depthAll, PyData.depth, depth_i r]
theorem okD_i (x : Int) : okD (.int x) = true := by simp [okD, PyData.plain, PyData.depth]
theorem okD_ti (xs : List Int) : okD (.tuple (xs.map .int)) = true := by simp [okD, PyData.plain, PyData.depth, plain_i, depth_i]
theorem okD_li (xs : List Int) : okD (.list (xs.map .int)) = true := by simp [okD, PyData.plain, PyData.depth, plain_i, depth_i]
theorem eqvAll_i : ∀ xs ys : List Int, PyData.eqvAll (xs.map .int) (ys.map .int) = decide (xs = ys)
  | [], [] => by simp [PyData.eqvAll]
  | [], y :: ys => by simp [PyData.eqvAll]
  | x :: xs, [] => by simp [PyData.eqvAll]
  | x :: xs, y :: ys => by
    simp only [List.map_cons, PyData.eqvAll, PyData.eqv, eqvAll_i xs ys]
    by_cases h : x = y <;> simp [h]
@[simp] theorem eqD_int (a b : Int) : eqD (.int a) (.int b) = some (decide (a = b)) := by
  simp [eqD, D.py, okD_i, PyData.eqv]
  by_cases h : a = b <;> simp [h]
theorem eqD_ti (xs ys : List Int) : eqD (.tup (xs.map .int)) (.tup (ys.map .int)) = some (decide (xs = ys)) := by
  simp [eqD, D.py, pys_i, okD_ti, PyData.eqv, eqvAll_i]
theorem eqD_li (xs ys : List Int) : eqD (.lst (xs.map .int)) (.lst (ys.map .int)) = some (decide (xs = ys)) := by
  simp [eqD, D.py, pys_i, okD_li, PyData.eqv, eqvAll_i]
@[simp] theorem cmp_eq (x y : D) : cmpD .Eq x y = eqD x y := rfl
@[simp] theorem cmp_ne (x y : D) : cmpD .NotEq x y = match eqD x y with | some b => some (!b) | none => none := rfl
theorem in_i (x : Int) (xs : List Int) : inD (.int x) (xs.map .int) = some (decide (x ∈ xs)) := by
  have h : ∀ ys : List Int, (ys.map PyData.int).all okD = true := fun ys => by
    induction ys with
    | nil => rfl
    | cons y r ih => simp [okD_i]
  simp only [inD, cmpAll, D.py, pys_i, okD_i, h, Bool.and_self, if_true, Option.some.injEq]
  induction xs with
  | nil => simp
  | cons y r ih =>
    simp only [List.map_cons, List.any_cons, PyData.eqv, ih, List.mem_cons]
    by_cases e : x = y
    · subst e; simp
    · have : (y == x) = false := by simpa using fun z => e z.symm
      simp [this, e]
theorem idx_i (x : Int) (xs : List Int) (hx : x ∈ xs) : idxD (.int x) (xs.map .int) = some (xs.idxOf x) := by
  have h : ∀ ys : List Int, (ys.map PyData.int).all okD = true := fun ys => by
    induction ys with
    | nil => rfl
    | cons y r ih => simp [okD_i]
  simp only [idxD, cmpAll, D.py, pys_i, okD_i, h, Bool.and_self, if_true]
  induction xs with
  | nil => simp at hx
  | cons y r ih =>
    simp only [List.map_cons, List.findIdx?_cons]
    by_cases e : y = x
    · subst e
      have e1 : PyData.eqv (.int y) (.int y) = true := by simp [PyData.eqv]
      simp [e1]
    · have e1 : PyData.eqv (.int y) (.int x) = false := by simp [PyData.eqv, e]
      have e2 : (y == x) = false := by simpa using e
      have hr : x ∈ r := by
        rcases List.mem_cons.mp hx with z | z
        · exact absurd z.symm e
        · exact z
      rw [e1, ih hr]
      simp [List.idxOf_cons, e2]
theorem cnt_i (x : Int) (xs : List Int) : cntD (.int x) (xs.map .int) = some (xs.count x) := by
  have h : ∀ ys : List Int, (ys.map PyData.int).all okD = true := fun ys => by
    induction ys with
    | nil => rfl
    | cons y r ih => simp [okD_i]
  simp only [cntD, cmpAll, D.py, pys_i, okD_i, h, Bool.and_self, if_true, Option.some.injEq]
  induction xs with
  | nil => simp
  | cons y r ih =>
    simp only [List.map_cons, List.countP_cons, ih, List.count_cons]
    by_cases e : y = x
    · subst e; simp [PyData.eqv]
    · simp [PyData.eqv, e]
theorem asInts_i (xs : List Int) : asInts (xs.map .int) = some xs := by
  induction xs with
  | nil => rfl
  | cons x r ih => simp [asInts, ih]
@[simp] theorem sum_ti (xs : List Int) : sumD (.tup (xs.map .int)) = some (.d (.int xs.sum)) := by simp [sumD, D.items, asInts_i]
@[simp] theorem sum_li (xs : List Int) : sumD (.lst (xs.map .int)) = some (.d (.int xs.sum)) := by simp [sumD, D.items, asInts_i]
@[simp] theorem tup_ti (xs : List D) : tupD (.tup xs) = some (.d (.tup xs)) := rfl
@[simp] theorem tup_li (xs : List D) : tupD (.lst xs) = some (.d (.tup xs)) := rfl
@[simp] theorem lst_ti (xs : List D) : lstD (.tup xs) = some (.lst (xs.map .d)) := rfl
@[simp] theorem lst_li (xs : List D) : lstD (.lst xs) = some (.lst (xs.map .d)) := rfl
theorem okAll_i (xs : List Int) : okAll (xs.map .int) = true := by
  simp only [okAll, List.all_eq_true, List.mem_map]
  rintro _ ⟨a, _, rfl⟩ _ ⟨b, _, rfl⟩
  simp [okLt, okD_i, W.alike]
theorem max_i (a : Int) (r : List Int) : maxD (.tup ((a :: r).map .int)) = some (.d (.int (r.foldl max a))) ∧ maxD (.lst ((a :: r).map .int)) = some (.d (.int (r.foldl max a))) := by
  have h := okAll_i (a :: r)
  have hp := pys_i (a :: r)
  simp only [List.map_cons] at h hp
  constructor <;>
  · simp only [maxD, D.items, List.map_cons, hp]
    rw [if_pos h, W.maxD_ints]
    simp [ofPy]
theorem min_i (a : Int) (r : List Int) : minD (.tup ((a :: r).map .int)) = some (.d (.int (r.foldl min a))) ∧ minD (.lst ((a :: r).map .int)) = some (.d (.int (r.foldl min a))) := by
  have h := okAll_i (a :: r)
  have hp := pys_i (a :: r)
  simp only [List.map_cons] at h hp
  constructor <;>
  · simp only [minD, D.items, List.map_cons, hp]
    rw [if_pos h, W.minD_ints]
    simp [ofPy]
/-- sorted: the same numbers, in order -/
theorem sort_i (xs : List Int) (hl : xs.length ≤ line) : ∃ ys : List Int, ys.Perm xs ∧ ys.Pairwise (· ≤ ·) ∧ sortD (.tup (xs.map .int)) = some (.lst ((ys.map D.int).map .d)) ∧ sortD (.lst (xs.map .int)) = some (.lst ((ys.map D.int).map .d)) := by
  have hle : ∀ a b : Int, W.dataLe false id (.int a) (.int b) = decide (a ≤ b) := fun a b => by
    have : W.dataLe false id (.int a) (.int b) = !W.dataLt (.int b) (.int a) := rfl
    rw [this, W.dataLt_int]
    by_cases h : b < a
    · simp [h]
    · simp [h, Int.not_lt.mp h]
  have hm : ((xs.map PyData.int).mergeSort (W.dataLe false id)) = ((xs.mergeSort (fun a b => decide (a ≤ b))).map PyData.int) := by
    rw [← List.map_mergeSort (r := fun a b => decide (a ≤ b)) (s := W.dataLe false id)]
    intro a _ b _
    exact (hle a b).symm
  have ok : srtOk (xs.map .int) = true := by
    simp only [srtOk, okAll_i, Bool.true_and, Bool.or_eq_true]
    right
    simp
  refine ⟨xs.mergeSort (fun a b => decide (a ≤ b)), List.mergeSort_perm _ _, ?_, ?_, ?_⟩
  · have := List.pairwise_mergeSort (le := fun a b : Int => decide (a ≤ b)) (fun a b c h1 h2 => by simp at *; omega) (fun a b => by simp; omega) xs
    simpa using this
  all_goals
    simp only [sortD, D.items, pys_i]
    rw [if_pos (by simp [ok, hl]), hm, ofPys_i]
theorem lt_ti (xs ys : List Int) (h : W.alikeAll (xs.map .int) (ys.map .int) = true) : cmpD .Lt (.tup (xs.map .int)) (.tup (ys.map .int)) = some (decide (xs < ys)) := by
  have e : cmpD .Lt (.tup (xs.map .int)) (.tup (ys.map .int)) = ltD (W.dataLt) (.tup (xs.map .int)) (.tup (ys.map .int)) := rfl
  rw [e]
  simp only [ltD, D.py, pys_i]
  have ok : okLt (.tuple (xs.map .int)) (.tuple (ys.map .int)) = true := by simp [okLt, okD_ti, W.alike, h]
  rw [if_pos ok, W.dataLt_tuple]
  exact congrArg some (W.dataLt_ints xs ys)
theorem alike_i : ∀ xs ys : List Int, W.alikeAll (xs.map .int) (ys.map .int) = true
  | [], ys => by simp [W.alikeAll]
  | x :: xs, [] => by simp [W.alikeAll]
  | x :: xs, y :: ys => by simp [W.alikeAll, W.alike, alike_i xs ys]
end Ev
set_option Elab.async false
set_option linter.all false
set_option maxRecDepth 100000
set_option maxHeartbeats 1000000
/-! Plain steps: containers, loops, comprehensions. -/
namespace Ev
open PySem

@[simp] theorem x_iV (c : SE) (e : Env) : iV c e = match c e with
  | some (m, e1) => match m.fz.items with | some xs => some (xs, e1) | none => none
  | none => none := rfl
@[simp] theorem x_iRng (cs : List SE) (e : Env) : iRng cs e = match evL cs e with
  | some (ms, e1) => match rangeL false (M.fzs ms) with | some xs => some (xs, e1) | none => none
  | none => none := rfl
@[simp] theorem x_iEnum (c : SE) (e : Env) : iEnum c e = match c e with
  | some (m, e1) => match m.fz.items with | some xs => some (enumD xs, e1) | none => none
  | none => none := rfl
@[simp] theorem x_iZip (a b : SE) (e : Env) : iZip a b e = match a e with
  | some (x, e1) => match b e1 with
    | some (y, e2) => match zipOk x.fz y.fz with | some xs => some (xs, e2) | none => none
    | none => none
  | none => none := rfl
@[simp] theorem x_iRev (c : SE) (e : Env) : iRev c e = match c e with
  | some (m, e1) => match m.fz.items with | some xs => some (xs.reverse, e1) | none => none
  | none => none := rfl
@[simp] theorem x_it1 (xs : List D) : (D.tup xs).items = some xs := rfl
@[simp] theorem x_it2 (xs : List D) : (D.lst xs).items = some xs := rfl
@[simp] theorem x_it3 (xs : List D) : (D.frl xs).items = some xs := rfl
@[simp] theorem x_gn (i : Nat) (x : D) (e : Env) : (Tg.n i).set x e = some (e.set i (some (.d x))) := by simp [Tg.set]
@[simp] theorem x_gt (gs : List Tg) (xs : List D) (e : Env) : (Tg.t gs).set (.tup xs) e = Tg.sets gs xs e := by simp [Tg.set]
@[simp] theorem x_gs0 (e : Env) : Tg.sets [] [] e = some e := by simp [Tg.sets]
@[simp] theorem x_gs1 (g : Tg) (gs : List Tg) (x : D) (xs : List D) (e : Env) : Tg.sets (g :: gs) (x :: xs) e = match g.set x e with | some e1 => Tg.sets gs xs e1 | none => none := by simp only [Tg.sets] <;> (cases g.set x e <;> rfl)
@[simp] theorem x_kIdx (k : SK) (q : SP) (e : Env) : kIdx k q e = match k e with
  | some (.val x) => match q e with
    | some (.int i) => match x.ix i with | some y => some (.val y) | none => none
    | _ => none
  | some (.at i p) => match e.at i p with
    | some (.lst ms) => match q e with
      | some (.int n) => match L2.ixN ms.length n with | some j => kKid e i p j | none => none
      | _ => none
    | _ => none
  | none => none := rfl
@[simp] theorem x_kFld (k : SK) (f : Str) (e : Env) : kFld k f e = match k e with
  | some (.val (.obj _ ns xs)) => match fIx ns f with
    | some j => match xs[j]? with | some x => some (.val x) | none => none
    | none => none
  | some (.at i p) => match e.at i p with
    | some (.obj _ ns _) => match fIx ns f with | some j => kKid e i p j | none => none
    | _ => none
  | _ => none := rfl
@[simp] theorem x_pOf (k : SK) (e : Env) : pOf k e = match k e with | some (.val x) => some x | _ => none := rfl
@[simp] theorem x_pBin (op : Operator) (a b : SP) (e : Env) : pBin op a b e = match a e with
  | some (.int x) => match b e with
    | some (.int y) => match binI op x y with | some z => some (.int z) | none => none
    | _ => none
  | _ => none := rfl
@[simp] theorem x_pNeg (a : SP) (e : Env) : pNeg a e = match a e with | some (.int x) => some (.int (-x)) | _ => none := rfl
@[simp] theorem x_pLen (k : SK) (e : Env) : pLen k e = match k e with
  | some v => match v.len e with | some n => some (.int n) | none => none
  | none => none := rfl
@[simp] theorem x_lenv (x : D) (e : Env) : (PV.val x).len e = x.len := rfl
@[simp] theorem x_lena (i : Nat) (p : List Nat) (e : Env) : (PV.at i p).len e = match e.at i p with
    | some (.lst ms) => some ms.length
    | _ => none := rfl
@[simp] theorem x_len1 (xs : List D) : (D.tup xs).len = some (xs.length : Int) := rfl
@[simp] theorem x_len2 (xs : List D) : (D.lst xs).len = some (xs.length : Int) := rfl
@[simp] theorem x_len3 (xs : List D) : (D.frl xs).len = some (xs.length : Int) := rfl
@[simp] theorem x_rdv (x : D) (e : Env) : (PV.val x).read e = some x := rfl
@[simp] theorem x_rda (i : Nat) (p : List Nat) (e : Env) : (PV.at i p).read e = match e.at i p with
    | some (.lst ms) => match allD ms with | some xs => some (.lst xs) | none => none
    | _ => none := rfl
@[simp] theorem x_at (e : Env) (i : Nat) (p : List Nat) : e.at i p = match e.slot i with | some m => m.sub p | none => none := rfl
@[simp] theorem x_putAt (e : Env) (i : Nat) (p : List Nat) (s : M) : e.putAt i p s = match e.slot i with | some m => e.set i (some (m.put p s)) | none => e := rfl
@[simp] theorem x_sub0 (m : M) : m.sub [] = some m := by cases m <;> rfl
@[simp] theorem x_sub1 (m : M) (i : Nat) (p : List Nat) : m.sub (i :: p) = match m.kids[i]? with | some x => x.sub p | none => none := by cases m <;> rfl
@[simp] theorem x_put0 (m s : M) : m.put [] s = s := by cases m <;> rfl
@[simp] theorem x_put1 (m : M) (i : Nat) (p : List Nat) (s : M) : m.put (i :: p) s = match m.kids[i]? with | some x => m.wk (m.kids.set i (x.put p s)) | none => m := by cases m <;> rfl
@[simp] theorem x_kids1 (xs : List M) : (M.lst xs).kids = xs := rfl
@[simp] theorem x_kids2 (c : Str) (ns : List Str) (xs : List M) : (M.obj c ns xs).kids = xs := rfl
@[simp] theorem x_wk1 (xs ys : List M) : (M.lst xs).wk ys = .lst ys := rfl
@[simp] theorem x_wk2 (c : Str) (ns : List Str) (xs ys : List M) : (M.obj c ns xs).wk ys = .obj c ns ys := rfl
@[simp] theorem x_fzl (xs : List M) : (M.lst xs).fz = .lst (M.fzs xs) := by simp [M.fz]
@[simp] theorem x_fzo (c : Str) (ns : List Str) (xs : List M) : (M.obj c ns xs).fz = .obj c ns (M.fzs xs) := by simp [M.fz]
@[simp] theorem x_fzm (xs : List D) : M.fzs (xs.map M.d) = xs := M.fzs_d xs
@[simp] theorem x_fzm2 {α : Type} (f : α → D) (xs : List α) : M.fzs (xs.map (M.d ∘ f)) = xs.map f := by
  rw [← List.map_map]; exact M.fzs_d _
theorem line_nat : line = 16777216 := rfl
theorem line_int : (line : Int) = 16777216 := by rw [line_nat]; rfl
@[simp] theorem x_allD (xs : List D) : allD (xs.map M.d) = some xs := by
  induction xs with
  | nil => rfl
  | cons x r ih => simp [allD, ih]
@[simp] theorem x_allD2 {α : Type} (f : α → D) (xs : List α) : allD (xs.map (M.d ∘ f)) = some (xs.map f) := by
  rw [← List.map_map]; exact x_allD _
@[simp] theorem x_allD3 {α : Type} (f : α → D) (xs : List α) : allD (xs.map fun t => M.d (f t)) = some (xs.map f) := x_allD2 f xs
@[simp] theorem x_fzm3 {α : Type} (f : α → D) (xs : List α) : M.fzs (xs.map fun t => M.d (f t)) = xs.map f := x_fzm2 f xs
@[simp] theorem x_allD0 : allD [] = some [] := rfl
@[simp] theorem x_allD1 (x : D) (r : List M) : allD (.d x :: r) = match allD r with | some xs => some (x :: xs) | none => none := rfl
@[simp] theorem x_kKid (e : Env) (i : Nat) (p : List Nat) (j : Nat) : kKid e i p j = match e.at i (p ++ [j]) with
  | some (.d x) => some (.val x)
  | some _ => some (.at i (p ++ [j]))
  | none => none := rfl
@[simp] theorem x_ix1 (xs : List D) (i : Int) : (D.tup xs).ix i = L2.atI xs i := rfl
@[simp] theorem x_ix2 (xs : List D) (i : Int) : (D.lst xs).ix i = L2.atI xs i := rfl
@[simp] theorem x_ix3 (xs : List D) (i : Int) : (D.frl xs).ix i = L2.atI xs i := rfl
@[simp] theorem x_cIx (a b : SE) (e : Env) : cIx a b e = match a e with
  | some (x, e1) => match b e1 with
    | some (.d (.int i), e2) => match x.fz.ix i with | some y => some (.d y, e2) | none => none
    | _ => none
  | none => none := rfl
@[simp] theorem x_cIxV (i : Nat) (b : SE) (e : Env) : cIxV i b e = match e.slot i with
  | none => none
  | some _ => match b e with
    | some (.d (.int n), e1) => match e1.slot i with
      | some (.d x) => match x.ix n with | some y => some (.d y, e1) | none => none
      | some (.lst ms) => match L2.atI ms n with | some (.d y) => some (.d y, e1) | _ => none
      | _ => none
    | _ => none := rfl
@[simp] theorem x_cSl (a : SE) (lo hi : Option SE) (e : Env) : cSl a lo hi e = match a e with
  | some (x, e1) => match optI lo e1 with
    | some (l, e2) => match optI hi e2 with
      | some (h, e3) => match sliceV x.fz l h with | some m => some (m, e3) | none => none
      | none => none
    | none => none
  | none => none := rfl
@[simp] theorem x_optN (e : Env) : optI none e = some (none, e) := rfl
@[simp] theorem x_optS (c : SE) (e : Env) : optI (some c) e = match c e with | some (.d (.int i), e1) => some (some i, e1) | _ => none := rfl
@[simp] theorem x_cFld (a : SE) (f : Str) (e : Env) : cFld a f e = match a e with
  | some (x, e1) => match x.fz with
    | .obj _ ns xs => match fIx ns f with
      | some j => match xs[j]? with | some y => some (.d y, e1) | none => none
      | none => none
    | _ => none
  | none => none := rfl
@[simp] theorem x_mK (m : String) (k : SK) (qs : List SP) (e : Env) : mK m k qs e = match k e with
  | some v => match v.read e with
    | some x => match evP qs e with
      | some ys => match mthD m x ys with | some z => some (z, e) | none => none
      | none => none
    | none => none
  | none => none := rfl
@[simp] theorem x_evP0 (e : Env) : evP [] e = some [] := rfl
@[simp] theorem x_evP1 (q : SP) (r : List SP) (e : Env) : evP (q :: r) e = match q e with
    | some x => match evP r e with | some xs => some (x :: xs) | none => none
    | none => none := rfl
@[simp] theorem x_mix (x : D) (y : D) : mthD "index" x [y] = match x.items with | some xs => (match idxD y xs with | some j => some (.d (.int j)) | none => none) | none => none := by
  cases x <;> simp [mthD, D.items] <;> rfl
@[simp] theorem x_mcn (x : D) (y : D) : mthD "count" x [y] = match x.items with | some xs => (match cntD y xs with | some j => some (.d (.int j)) | none => none) | none => none := by
  cases x <;> simp [mthD, D.items] <;> rfl
@[simp] theorem x_sFor (it : SI) (g : Tg) (b : SS) (e : Env) : sFor it g b e = match it e with
  | some (xs, e1) => forL g b xs e1
  | none => none := rfl
@[simp] theorem x_sIdx (k : SK) (q : SP) (c : SE) (e : Env) : sIdx k q c e = match c e with
  | some (x, e1) => match k e1 with
    | some (.at i p) => match q e1 with
      | some (.int n) => match e1.at i p with
        | some m => match m.setI n x with | some m' => some (.nx (e1.putAt i p m')) | none => none
        | none => none
      | _ => none
    | _ => none
  | none => none := rfl
@[simp] theorem x_setI (ms : List M) (n : Int) (x : M) : (M.lst ms).setI n x = match L2.ixN ms.length n with | some j => some (.lst (ms.set j x)) | none => none := rfl
@[simp] theorem x_sApp (i : Nat) (c : SE) (e : Env) : sApp i c e = match e.slot i with
  | some (.lst _) => match c e with
    | some (x, e1) => match e1.slot i with
      | some (.lst ms) => if ms.length < line then some (.nx (e1.set i (some (.lst (ms ++ [x]))))) else none
      | _ => none
    | none => none
  | _ => none := rfl
@[simp] theorem x_sAug (i : Nat) (op : Operator) (c : SE) (e : Env) : sAug i op c e = match e.slot i with
  | some (.d (.int a)) => match c e with
    | some (.d (.int b), e1) => match binI op a b with | some z => some (.nx (e1.set i (some (.d (.int z))))) | none => none
    | _ => none
  | _ => none := rfl
@[simp] theorem x_sFld (fa : Str → Str → Bool) (k : SK) (f : Str) (c : SE) (e : Env) : sFld fa k f c e = match c e with
  | some (x, e1) => match k e1 with
    | some (.at i p) => match e1.at i p with
      | some m => match m.setF fa f x with | some m' => some (.nx (e1.putAt i p m')) | none => none
      | none => none
    | _ => none
  | none => none := rfl
@[simp] theorem x_sBreak (e : Env) : sBreak e = some (.bk e) := rfl
@[simp] theorem x_sCont (e : Env) : sCont e = some (.ct e) := rfl
@[simp] theorem x_cMeth (f : Str) (tb : Str → Option Mt) (a : SA) (as : List SA) (e : Env) : cMeth f tb a as e = match a e with
  | none => none
  | some (av, e1) => match av.cls f e1 with
    | none => none
    | some c => match tb c with
      | none => none
      | some t => match evA as e1 with
        | none => none
        | some (avs, e2) => match takeA (av :: avs) e2 with
          | none => none
          | some (ms, e3) => match t.r (ms ++ t.dn.map fun i => .d (.int i)) with
            | some (m, os) => some (m, backA (av :: avs) t.mu os e3)
            | none => none := rfl
@[simp] theorem x_avm (f : Str) (e : Env) (x : M) : (AV.m x).cls f e = x.cls f := rfl
@[simp] theorem x_avl (f : Str) (e : Env) (i : Nat) : (AV.lend i).cls f e = match e.slot i with | some x => x.cls f | none => none := rfl
@[simp] theorem x_cls1 (f c : Str) (ns : List Str) (xs : List M) : (M.obj c ns xs).cls f = if fIx ns f = none then some c else none := rfl
@[simp] theorem x_cls2 (f c : Str) (ns : List Str) (xs : List D) : (M.d (.obj c ns xs)).cls f = if fIx ns f = none then some c else none := rfl
@[simp] theorem x_cMake (c : Str) (r : Fn) (dn : List Int) (as : List SA) (e : Env) : cMake c r dn as e = match evA as e with
  | none => none
  | some (avs, e1) => match takeA avs e1 with
    | none => none
    | some (ms, e2) => match r (.obj c [] [] :: (ms ++ dn.map fun i => .d (.int i))) with
        | some (.d .non, [o]) => some (o, e2)
        | _ => none := rfl
@[simp] theorem x_add (a b : Int) : binV .Add (.int a) (.int b) = some (.d (.int (a + b))) := rfl
@[simp] theorem x_subI (a b : Int) : binV .Sub (.int a) (.int b) = some (.d (.int (a - b))) := rfl
theorem x_mul (a b : Int) (h : MulOk a b) : binV .Mult (.int a) (.int b) = some (.d (.int (a * b))) := by simp [binV, binI, h]
theorem x_mod (a b : Int) (h : 0 < b) : binV .Mod (.int a) (.int b) = some (.d (.int (a % b))) := by simp [binV, binI, h]
theorem x_div (a b : Int) (h : DivOk a b) : binV .FloorDiv (.int a) (.int b) = some (.d (.int (a / b))) := by simp [binV, binI, h]
theorem divOk {a b : Int} (h : 0 < b) (h2 : b < 2 ^ 64) : DivOk a b := ⟨h, Nat.lt_of_lt_of_le (show b.natAbs < 2 ^ 64 by omega) (Nat.pow_le_pow_right (by omega) (by omega))⟩
theorem mulR (a b : Int) (h : b.natAbs < 2 ^ 64) : MulOk a b := .inr (.inl h)
theorem mulL (a b : Int) (h : a.natAbs < 2 ^ 64) : MulOk a b := .inl h
@[simp] theorem x_int (a : Int) : intL [.int a] = some (.d (.int a)) := rfl
@[simp] theorem x_max2 (a b : Int) : maxL [.int a, .int b] = some (.d (.int (if b > a then b else a))) := rfl
@[simp] theorem x_min2 (a b : Int) : minL [.int a, .int b] = some (.d (.int (if b < a then b else a))) := rfl
@[simp] theorem x_tr1 (b : Bool) : truth (.bl b) = some b := rfl
@[simp] theorem x_tr2 (i : Int) : truth (.int i) = some (i != 0) := rfl
@[simp] theorem x_tr3 (xs : List D) : truth (.tup xs) = some (!xs.isEmpty) := rfl
@[simp] theorem x_tr4 (xs : List D) : truth (.lst xs) = some (!xs.isEmpty) := rfl
theorem at_nat {α : Type} {xs : List α} {i : Int} {x : α} (h0 : 0 ≤ i) (h : xs[i.toNat]? = some x) : L2.atI xs i = some x := by
  obtain ⟨n, rfl⟩ := Int.eq_ofNat_of_zero_le h0
  exact L2.atI_nat (by simpa using h)
theorem ix_nat {n : Nat} {i : Int} (h0 : 0 ≤ i) (h : i < n) (hn : n ≤ line) : L2.ixN n i = some i.toNat := by
  have : L2.atI (List.range n) i = some i.toNat := at_nat h0 (by rw [List.getElem?_range]; omega)
  unfold L2.atI at this
  cases h2 : L2.ixN n i with
  | none => rw [List.length_range, h2] at this; cases this
  | some j =>
    rw [List.length_range, h2] at this
    have z : (List.range n)[j]? = some i.toNat := this
    obtain ⟨z1, z2⟩ := List.getElem?_eq_some_iff.mp z
    rw [List.getElem_range] at z2
    rw [z2]
theorem rng (n : Int) (h : n < 2 ^ 59) (h2 : -(2 ^ 59) ≤ n) : rangeL false [.int n] = some ((rangeI 0 n).map .int) := by
  have z : smallR 0 n = true := by simp only [smallR, Bool.and_eq_true, decide_eq_true_eq]; omega
  show (if (smallR 0 n && (!false || decide (n.toNat ≤ line))) = true then _ else _) = _
  rw [if_pos (by rw [z]; rfl)]
theorem rng2 (a b : Int) (ha : -(2 ^ 59) ≤ a) (ha2 : a < 2 ^ 59) (h : b < 2 ^ 59) (h2 : -(2 ^ 59) ≤ b) : rangeL false [.int a, .int b] = some ((rangeI a b).map .int) := by
  have z : smallR a b = true := by simp only [smallR, Bool.and_eq_true, decide_eq_true_eq]; omega
  show (if (smallR a b && (!false || decide ((b - a).toNat ≤ line))) = true then _ else _) = _
  rw [if_pos (by rw [z]; rfl)]
theorem lrg1 (n : Int) (h0 : -(2 ^ 59) ≤ n) (h : n ≤ 16777216) : lstRange [.int n] = some (.lst (((rangeI 0 n).map D.int).map .d)) := by
  have z : smallR 0 n = true := by simp only [smallR, Bool.and_eq_true, decide_eq_true_eq]; omega
  have z2 : n.toNat ≤ line := by rw [line_nat]; omega
  show (match (if (smallR 0 n && (!true || decide (n.toNat ≤ line))) = true then some ((rangeI 0 n).map D.int) else none) with | some ys => some (M.lst (ys.map M.d)) | none => none) = _
  rw [if_pos (by rw [z, decide_eq_true z2]; rfl)]
theorem lrg2 (a b : Int) (h0 : -(2 ^ 59) ≤ a ∧ a < 2 ^ 59) (h1 : -(2 ^ 59) ≤ b ∧ b < 2 ^ 59) (h : b - a ≤ 16777216) : lstRange [.int a, .int b] = some (.lst (((rangeI a b).map D.int).map .d)) := by
  have z : smallR a b = true := by simp only [smallR, Bool.and_eq_true, decide_eq_true_eq]; omega
  have z2 : (b - a).toNat ≤ line := by rw [line_nat]; omega
  show (match (if (smallR a b && (!true || decide ((b - a).toNat ≤ line))) = true then some ((rangeI a b).map D.int) else none) with | some ys => some (M.lst (ys.map M.d)) | none => none) = _
  rw [if_pos (by rw [z, decide_eq_true z2]; rfl)]
theorem rngI_get {a b : Int} {i : Nat} {x : D} (h : ((rangeI a b).map D.int)[i]? = some x) : x = .int (a + i) ∧ (i : Int) < b - a := by
  rw [List.getElem?_map] at h
  unfold rangeI at h
  rw [List.getElem?_map] at h
  cases h2 : (List.range (b - a).toNat)[i]? with
  | none => rw [h2] at h; cases h
  | some j =>
    obtain ⟨z1, z2⟩ := List.getElem?_eq_some_iff.mp h2
    rw [List.getElem_range] at z2
    subst z2
    rw [h2] at h
    rw [List.length_range] at z1
    simp at h
    exact ⟨h.symm, by omega⟩
theorem rngI_len (a b : Int) : ((rangeI a b).map D.int).length = (b - a).toNat := by simp [rangeI]

/-! ### loops -/
/-- each turn goes on -/
theorem for_all {g : Tg} {b : SS} (P : Nat → Env → Prop) : ∀ (xs : List D) (n : Nat) (e : Env), P n e →
    (∀ i x e, xs[i]? = some x → P (n + i) e → ∃ e1 e2, g.set x e = some e1 ∧ (b e1 = some (.nx e2) ∨ b e1 = some (.ct e2)) ∧ P (n + i + 1) e2) → ∃ e', forL g b xs e = some (.nx e') ∧ P (n + xs.length) e'
  | [], n, e, h, _ => ⟨e, rfl, h⟩
  | x :: r, n, e, h, st => by
    obtain ⟨e1, e2, h1, h2, h3⟩ := st 0 x e rfl h
    obtain ⟨e', h4, h5⟩ := for_all P r (n + 1) e2 h3 fun i y e hy hp => by
      have := st (i + 1) y e (by simpa using hy) (by rw [show n + (i + 1) = n + 1 + i by omega]; exact hp)
      rw [show n + (i + 1) + 1 = n + 1 + i + 1 by omega] at this
      exact this
    refine ⟨e', ?_, by rw [show n + (x :: r).length = n + 1 + r.length by simp; omega]; exact h5⟩
    simp only [forL, h1]
    rcases h2 with h2 | h2 <;> rw [h2] <;> exact h4
/-- each turn goes on, or is the last -/
theorem for_some {g : Tg} {b : SS} (P : Nat → Env → Prop) (Q : R → Prop) : ∀ (xs : List D) (n : Nat) (e : Env), P n e →
    (∀ i x e, xs[i]? = some x → P (n + i) e → ∃ e1, g.set x e = some e1 ∧ ((∃ e2, (b e1 = some (.nx e2) ∨ b e1 = some (.ct e2)) ∧ P (n + i + 1) e2) ∨ (∃ e2, b e1 = some (.bk e2) ∧ Q (.nx e2)) ∨ ∃ m e2, b e1 = some (.rt m e2) ∧ Q (.rt m e2))) →
    (∀ e, P (n + xs.length) e → Q (.nx e)) → ∃ r, forL g b xs e = some r ∧ Q r
  | [], n, e, h, _, hq => ⟨.nx e, rfl, hq e h⟩
  | x :: r, n, e, h, st, hq => by
    obtain ⟨e1, h1, h2⟩ := st 0 x e rfl h
    simp only [forL, h1]
    rcases h2 with ⟨e2, h2, h3⟩ | ⟨e2, h2, h3⟩ | ⟨m, e2, h2, h3⟩
    · obtain ⟨r', h4, h5⟩ := for_some P Q r (n + 1) e2 h3 (fun i y e hy hp => by
        have := st (i + 1) y e (by simpa using hy) (by rw [show n + (i + 1) = n + 1 + i by omega]; exact hp)
        rw [show n + (i + 1) + 1 = n + 1 + i + 1 by omega] at this
        exact this) (fun e he => hq e (by rw [show n + (x :: r).length = n + 1 + r.length by simp; omega]; exact he))
      refine ⟨r', ?_, h5⟩
      rcases h2 with h2 | h2 <;> rw [h2] <;> exact h4
    · exact ⟨.nx e2, by rw [h2], h3⟩
    · exact ⟨.rt m e2, by rw [h2], h3⟩

/-! ### comprehensions -/
theorem wipe_wipe {e : Env} {vs : List Nat} : wipeE (wipeE e vs) vs = wipeE e vs := by
  apply List.ext_getElem?
  intro j
  rw [wE_get, wE_get, wE_len]
  split <;> rfl
theorem wipe_set {e : Env} {vs : List Nat} {j : Nat} {o : Option M} (hj : j ∈ vs) : wipeE (e.set j o) vs = wipeE e vs := by
  apply List.ext_getElem?
  intro i
  rw [wE_get, wE_get, List.length_set]
  by_cases h : i ∈ vs ∧ i < e.length
  · rw [if_pos h, if_pos h]
  · rw [if_neg h, if_neg h]
    by_cases hi : j = i
    · subst hi
      have : ¬ j < e.length := fun z => h ⟨hj, z⟩
      rw [List.getElem?_eq_none (by rw [List.length_set]; omega), List.getElem?_eq_none (by omega)]
    · rw [List.getElem?_set_ne hi]
theorem back_self {e : Env} {vs : List Nat} : backE e e vs = e := by
  apply List.ext_getElem?
  intro j
  rw [bE_get.2]
  split
  · rename_i h
    rw [List.getD_eq_getElem?_getD, List.getElem?_eq_getElem h.2]; rfl
  · rfl
theorem compL_pure {g : Tg} {t : ST} {c : SE} {vs : List Nat} {e : Env} (p : D → Bool) (f : D → M) : ∀ (xs : List D) (e' : Env), wipeE e' vs = wipeE e vs →
    (∀ x ∈ xs, ∃ e1, g.set x (wipeE e vs) = some e1 ∧ wipeE e1 vs = wipeE e vs ∧ t e1 = some (p x, e1) ∧ (p x = true → c e1 = some (f x, e1))) →
    ∃ e'', compL g t c vs xs e' = some ((xs.filter p).map f, e'') ∧ wipeE e'' vs = wipeE e vs
  | [], e', h, _ => ⟨e', rfl, h⟩
  | x :: r, e', h, st => by
    obtain ⟨e1, h1, h2, h3, h4⟩ := st x List.mem_cons_self
    obtain ⟨e'', h5, h6⟩ := compL_pure p f r e1 h2 fun y hy => st y (List.mem_cons_of_mem _ hy)
    refine ⟨e'', ?_, h6⟩
    simp only [compL, h, h1, h3]
    cases hp : p x with
    | true => simp [h4 hp, h5, hp]
    | false => simp [h5, hp]
/-- a comprehension whose parts change nothing -/
theorem comp_pure {vs : List Nat} {it : SI} {g : Tg} {t : ST} {c : SE} {e e1 : Env} {xs : List D} (p : D → Bool) (f : D → M) (hi : it e = some (xs, e1)) (hl : xs.length < line) (hf : flatE e1 vs = true) (hg : (g.ns.all fun j => vs.contains j) = true)
    (st : ∀ x ∈ xs, ∃ e2, g.set x (wipeE e1 vs) = some e2 ∧ wipeE e2 vs = wipeE e1 vs ∧ t e2 = some (p x, e2) ∧ (p x = true → c e2 = some (f x, e2))) :
    cComp vs it g t c e = some (.lst ((xs.filter p).map f), e1) := by
  obtain ⟨e'', h1, h2⟩ := compL_pure (e := e1) p f xs e1 rfl st
  unfold cComp
  simp only [hi]
  rw [if_pos ⟨hl, hf, hg⟩, h1]
  simp only [Option.some.injEq, Prod.mk.injEq, true_and]
  rw [← back_wipe, h2, back_wipe, back_self]
/-- a state goes through a comprehension -/
theorem compL_inv {g : Tg} {t : ST} {c : SE} {vs : List Nat} (P : Nat → List M → Env → Prop) : ∀ (xs : List D) (n : Nat) (ms0 : List M) (e : Env), P n ms0 e →
    (∀ i x ms e, xs[i]? = some x → P (n + i) ms e → ∃ e1 e2 m e3, g.set x (wipeE e vs) = some e1 ∧ t e1 = some (true, e2) ∧ c e2 = some (m, e3) ∧ P (n + i + 1) (ms ++ [m]) e3) → ∃ ms e', compL g t c vs xs e = some (ms, e') ∧ P (n + xs.length) (ms0 ++ ms) e'
  | [], n, ms0, e, h, _ => ⟨[], e, rfl, by simpa using h⟩
  | x :: r, n, ms0, e, h, st => by
    obtain ⟨e1, e2, m, e3, h1, h2, h3, h4⟩ := st 0 x ms0 e rfl h
    obtain ⟨ms, e', h5, h6⟩ := compL_inv P r (n + 1) (ms0 ++ [m]) e3 h4 fun i y ms e hy hp => by
      have := st (i + 1) y ms e (by simpa using hy) (by rw [show n + (i + 1) = n + 1 + i by omega]; exact hp)
      rw [show n + (i + 1) + 1 = n + 1 + i + 1 by omega] at this
      exact this
    refine ⟨m :: ms, e', by simp only [compL, h1, h2, h3, h5], ?_⟩
    rw [show n + (x :: r).length = n + 1 + r.length by simp; omega]
    simpa using h6
/-- .. what is walked changes nothing either -/
theorem comp_same {vs : List Nat} {it : SI} {g : Tg} {t : ST} {c : SE} {xs : List D} (e : Env) (p : D → Bool) (f : D → M) (hi : it e = some (xs, e)) (hl : xs.length < line) (hf : flatE e vs = true) (hg : (g.ns.all fun j => vs.contains j) = true)
    (st : ∀ x ∈ xs, ∃ e2, g.set x (wipeE e vs) = some e2 ∧ wipeE e2 vs = wipeE e vs ∧ t e2 = some (p x, e2) ∧ (p x = true → c e2 = some (f x, e2))) :
    cComp vs it g t c e = some (.lst ((xs.filter p).map f), e) := comp_pure p f hi hl hf hg st
@[simp] theorem x_wp0 (e : Env) : wipeE e [] = e := rfl
@[simp] theorem x_wp1 (e : Env) (v : Nat) (vs : List Nat) : wipeE e (v :: vs) = (wipeE e vs).set v none := rfl
@[simp] theorem x_fl (e : Env) (vs : List Nat) : flatE e vs = vs.all fun v => match e.slot v with | none => true | some (.d _) => true | _ => false := rfl
@[simp] theorem x_ns (i : Nat) : (Tg.n i).ns = [i] := by simp [Tg.ns]
@[simp] theorem x_nst (gs : List Tg) : (Tg.t gs).ns = Tg.nss gs := by simp [Tg.ns]
@[simp] theorem x_nss0 : Tg.nss [] = [] := by simp [Tg.nss]
@[simp] theorem x_nss1 (g : Tg) (gs : List Tg) : Tg.nss (g :: gs) = g.ns ++ Tg.nss gs := by simp [Tg.nss]
end Ev
set_option Elab.async false
set_option linter.all false
set_option maxRecDepth 100000
namespace Tw
open PySem Ev
theorem f_is_integer : tb.find ("is_integer", none) = some d_is_integer := by kernel_rfl
theorem r_is_integer (k : Nat) : run tb (k + 2) ("is_integer", none) = runF (b_is_integer (run tb (k + 1)) (run tb k)) 1 1 [] := by rw [run_at f_is_integer, e_is_integer]; rfl
theorem f_is_within : tb.find ("is_within", none) = some d_is_within := by kernel_rfl
theorem r_is_within (k : Nat) : run tb (k + 2) ("is_within", none) = runF (b_is_within (run tb (k + 1)) (run tb k)) 3 3 [] := by rw [run_at f_is_within, e_is_within]; rfl
theorem f_is_sequence : tb.find ("is_sequence", none) = some d_is_sequence := by kernel_rfl
theorem r_is_sequence (k : Nat) : run tb (k + 2) ("is_sequence", none) = runF (b_is_sequence (run tb (k + 1)) (run tb k)) 1 1 [] := by rw [run_at f_is_sequence, e_is_sequence]; rfl
theorem f_is_order : tb.find ("is_order", none) = some d_is_order := by kernel_rfl
theorem r_is_order (k : Nat) : run tb (k + 2) ("is_order", none) = runF (b_is_order (run tb (k + 1)) (run tb k)) 2 2 [] := by rw [run_at f_is_order, e_is_order]; rfl
theorem f_need : tb.find ("need", none) = some d_need := by kernel_rfl
theorem r_need (k : Nat) : run tb (k + 2) ("need", none) = runF (b_need (run tb (k + 1)) (run tb k)) 2 2 [] := by rw [run_at f_need, e_need]; rfl
theorem f_need_integer : tb.find ("need_integer", none) = some d_need_integer := by kernel_rfl
theorem r_need_integer (k : Nat) : run tb (k + 2) ("need_integer", none) = runF (b_need_integer (run tb (k + 1)) (run tb k)) 4 4 [] := by rw [run_at f_need_integer, e_need_integer]; rfl
theorem f_need_sequence : tb.find ("need_sequence", none) = some d_need_sequence := by kernel_rfl
theorem r_need_sequence (k : Nat) : run tb (k + 2) ("need_sequence", none) = runF (b_need_sequence (run tb (k + 1)) (run tb k)) 4 4 [] := by rw [run_at f_need_sequence, e_need_sequence]; rfl
theorem f_need_integers : tb.find ("need_integers", none) = some d_need_integers := by kernel_rfl
theorem r_need_integers (k : Nat) : run tb (k + 2) ("need_integers", none) = runF (b_need_integers (run tb (k + 1)) (run tb k)) 8 6 [] := by rw [run_at f_need_integers, e_need_integers]; rfl
theorem f_need_unlike : tb.find ("need_unlike", none) = some d_need_unlike := by kernel_rfl
theorem r_need_unlike (k : Nat) : run tb (k + 2) ("need_unlike", none) = runF (b_need_unlike (run tb (k + 1)) (run tb k)) 7 6 [] := by rw [run_at f_need_unlike, e_need_unlike]; rfl
theorem f_check_club : tb.find ("check_club", none) = some d_check_club := by kernel_rfl
theorem r_check_club (k : Nat) : run tb (k + 2) ("check_club", none) = runF (b_check_club (run tb (k + 1)) (run tb k)) 3 3 [] := by rw [run_at f_check_club, e_check_club]; rfl
theorem f_check_order : tb.find ("check_order", none) = some d_check_order := by kernel_rfl
theorem r_check_order (k : Nat) : run tb (k + 2) ("check_order", none) = runF (b_check_order (run tb (k + 1)) (run tb k)) 2 2 [] := by rw [run_at f_check_order, e_check_order]; rfl
theorem f_check_number : tb.find ("check_number", none) = some d_check_number := by kernel_rfl
theorem r_check_number (k : Nat) : run tb (k + 2) ("check_number", none) = runF (b_check_number (run tb (k + 1)) (run tb k)) 2 2 [] := by rw [run_at f_check_number, e_check_number]; rfl
theorem f_meet_order : tb.find ("meet_order", none) = some d_meet_order := by kernel_rfl
theorem r_meet_order (k : Nat) : run tb (k + 2) ("meet_order", none) = runF (b_meet_order (run tb (k + 1)) (run tb k)) 3 3 [] := by rw [run_at f_meet_order, e_meet_order]; rfl
theorem f_meet_number : tb.find ("meet_number", none) = some d_meet_number := by kernel_rfl
theorem r_meet_number (k : Nat) : run tb (k + 2) ("meet_number", none) = runF (b_meet_number (run tb (k + 1)) (run tb k)) 3 3 [] := by rw [run_at f_meet_number, e_meet_number]; rfl
theorem f_stands : tb.find ("stands", none) = some d_stands := by kernel_rfl
theorem r_stands (k : Nat) : run tb (k + 2) ("stands", none) = runF (b_stands (run tb (k + 1)) (run tb k)) 11 3 [] := by rw [run_at f_stands, e_stands]; rfl
theorem f_owed_behind : tb.find ("owed_behind", none) = some d_owed_behind := by kernel_rfl
theorem r_owed_behind (k : Nat) : run tb (k + 2) ("owed_behind", none) = runF (b_owed_behind (run tb (k + 1)) (run tb k)) 4 3 [] := by rw [run_at f_owed_behind, e_owed_behind]; rfl
theorem f_sheet_of : tb.find ("sheet_of", none) = some d_sheet_of := by kernel_rfl
theorem r_sheet_of (k : Nat) : run tb (k + 2) ("sheet_of", none) = runF (b_sheet_of (run tb (k + 1)) (run tb k)) 5 2 [] := by rw [run_at f_sheet_of, e_sheet_of]; rfl
theorem f_DebtSheet___init__ : tb.find ("DebtSheet", some "__init__") = some d_DebtSheet___init__ := by kernel_rfl
theorem r_DebtSheet___init__ (k : Nat) : run tb (k + 2) ("DebtSheet", some "__init__") = runF (b_DebtSheet___init__ (run tb (k + 1)) (run tb k)) 2 2 [0] := by rw [run_at f_DebtSheet___init__, e_DebtSheet___init__]; rfl
theorem f_DebtSheet_many_rounds : tb.find ("DebtSheet", some "many_rounds") = some d_DebtSheet_many_rounds := by kernel_rfl
theorem r_DebtSheet_many_rounds (k : Nat) : run tb (k + 2) ("DebtSheet", some "many_rounds") = runF (b_DebtSheet_many_rounds (run tb (k + 1)) (run tb k)) 1 1 [0] := by rw [run_at f_DebtSheet_many_rounds, e_DebtSheet_many_rounds]; rfl
theorem f_DebtSheet_is_even : tb.find ("DebtSheet", some "is_even") = some d_DebtSheet_is_even := by kernel_rfl
theorem r_DebtSheet_is_even (k : Nat) : run tb (k + 2) ("DebtSheet", some "is_even") = runF (b_DebtSheet_is_even (run tb (k + 1)) (run tb k)) 3 2 [0] := by rw [run_at f_DebtSheet_is_even, e_DebtSheet_is_even]; rfl
theorem f_DebtSheet_even_rounds : tb.find ("DebtSheet", some "even_rounds") = some d_DebtSheet_even_rounds := by kernel_rfl
theorem r_DebtSheet_even_rounds (k : Nat) : run tb (k + 2) ("DebtSheet", some "even_rounds") = runF (b_DebtSheet_even_rounds (run tb (k + 1)) (run tb k)) 3 1 [0] := by rw [run_at f_DebtSheet_even_rounds, e_DebtSheet_even_rounds]; rfl
theorem f_DebtSheet_debt : tb.find ("DebtSheet", some "debt") = some d_DebtSheet_debt := by kernel_rfl
theorem r_DebtSheet_debt (k : Nat) : run tb (k + 2) ("DebtSheet", some "debt") = runF (b_DebtSheet_debt (run tb (k + 1)) (run tb k)) 3 3 [0] := by rw [run_at f_DebtSheet_debt, e_DebtSheet_debt]; rfl
theorem f_DebtSheet_debts_of : tb.find ("DebtSheet", some "debts_of") = some d_DebtSheet_debts_of := by kernel_rfl
theorem r_DebtSheet_debts_of (k : Nat) : run tb (k + 2) ("DebtSheet", some "debts_of") = runF (b_DebtSheet_debts_of (run tb (k + 1)) (run tb k)) 3 2 [0] := by rw [run_at f_DebtSheet_debts_of, e_DebtSheet_debts_of]; rfl
theorem f_DebtSheet_deepest : tb.find ("DebtSheet", some "deepest") = some d_DebtSheet_deepest := by kernel_rfl
theorem r_DebtSheet_deepest (k : Nat) : run tb (k + 2) ("DebtSheet", some "deepest") = runF (b_DebtSheet_deepest (run tb (k + 1)) (run tb k)) 4 2 [0] := by rw [run_at f_DebtSheet_deepest, e_DebtSheet_deepest]; rfl
theorem f_DebtSheet_greatest : tb.find ("DebtSheet", some "greatest") = some d_DebtSheet_greatest := by kernel_rfl
theorem r_DebtSheet_greatest (k : Nat) : run tb (k + 2) ("DebtSheet", some "greatest") = runF (b_DebtSheet_greatest (run tb (k + 1)) (run tb k)) 5 1 [0] := by rw [run_at f_DebtSheet_greatest, e_DebtSheet_greatest]; rfl
theorem f_are_owed : tb.find ("are_owed", none) = some d_are_owed := by kernel_rfl
theorem r_are_owed (k : Nat) : run tb (k + 2) ("are_owed", none) = runF (b_are_owed (run tb (k + 1)) (run tb k)) 8 4 [] := by rw [run_at f_are_owed, e_are_owed]; rfl
theorem f_is_greatest : tb.find ("is_greatest", none) = some d_is_greatest := by kernel_rfl
theorem r_is_greatest (k : Nat) : run tb (k + 2) ("is_greatest", none) = runF (b_is_greatest (run tb (k + 1)) (run tb k)) 10 2 [] := by rw [run_at f_is_greatest, e_is_greatest]; rfl
theorem f_owed_now : tb.find ("owed_now", none) = some d_owed_now := by kernel_rfl
theorem r_owed_now (k : Nat) : run tb (k + 2) ("owed_now", none) = runF (b_owed_now (run tb (k + 1)) (run tb k)) 4 3 [] := by rw [run_at f_owed_now, e_owed_now]; rfl
theorem f_fair_end : tb.find ("fair_end", none) = some d_fair_end := by kernel_rfl
theorem r_fair_end (k : Nat) : run tb (k + 2) ("fair_end", none) = runF (b_fair_end (run tb (k + 1)) (run tb k)) 2 2 [] := by rw [run_at f_fair_end, e_fair_end]; rfl
theorem f_greatest_debt : tb.find ("greatest_debt", none) = some d_greatest_debt := by kernel_rfl
theorem r_greatest_debt (k : Nat) : run tb (k + 2) ("greatest_debt", none) = runF (b_greatest_debt (run tb (k + 1)) (run tb k)) 4 2 [] := by rw [run_at f_greatest_debt, e_greatest_debt]; rfl
theorem f__law_numbers : tb.find ("_law_numbers", none) = some d__law_numbers := by kernel_rfl
theorem r__law_numbers (k : Nat) : run tb (k + 2) ("_law_numbers", none) = runF (b__law_numbers (run tb (k + 1)) (run tb k)) 6 1 [] := by rw [run_at f__law_numbers, e__law_numbers]; rfl
theorem f__law_draw : tb.find ("_law_draw", none) = some d__law_draw := by kernel_rfl
theorem r__law_draw (k : Nat) : run tb (k + 2) ("_law_draw", none) = runF (b__law_draw (run tb (k + 1)) (run tb k)) 4 3 [] := by rw [run_at f__law_draw, e__law_draw]; rfl
theorem f__law_take : tb.find ("_law_take", none) = some d__law_take := by kernel_rfl
theorem r__law_take (k : Nat) : run tb (k + 2) ("_law_take", none) = runF (b__law_take (run tb (k + 1)) (run tb k)) 3 3 [1] := by rw [run_at f__law_take, e__law_take]; rfl
theorem f__law_pick : tb.find ("_law_pick", none) = some d__law_pick := by kernel_rfl
theorem r__law_pick (k : Nat) : run tb (k + 2) ("_law_pick", none) = runF (b__law_pick (run tb (k + 1)) (run tb k)) 3 3 [1] := by rw [run_at f__law_pick, e__law_pick]; rfl
theorem f__law_figure : tb.find ("_law_figure", none) = some d__law_figure := by kernel_rfl
theorem r__law_figure (k : Nat) : run tb (k + 2) ("_law_figure", none) = runF (b__law_figure (run tb (k + 1)) (run tb k)) 8 3 [1] := by rw [run_at f__law_figure, e__law_figure]; rfl
theorem f__law_club : tb.find ("_law_club", none) = some d__law_club := by kernel_rfl
theorem r__law_club (k : Nat) : run tb (k + 2) ("_law_club", none) = runF (b__law_club (run tb (k + 1)) (run tb k)) 5 3 [1] := by rw [run_at f__law_club, e__law_club]; rfl
theorem f_law : tb.find ("law", none) = some d_law := by kernel_rfl
theorem r_law (k : Nat) : run tb (k + 2) ("law", none) = runF (b_law (run tb (k + 1)) (run tb k)) 21 1 [] := by rw [run_at f_law, e_law]; rfl
theorem mt_debt_2_DebtSheet (r : Pl → Fn) : mt_debt_2 r "DebtSheet" = some ⟨r ("DebtSheet", some "debt"), [0], []⟩ := by kernel_rfl
theorem mt_debts_of_1_DebtSheet (r : Pl → Fn) : mt_debts_of_1 r "DebtSheet" = some ⟨r ("DebtSheet", some "debts_of"), [0], []⟩ := by kernel_rfl
theorem mt_deepest_1_DebtSheet (r : Pl → Fn) : mt_deepest_1 r "DebtSheet" = some ⟨r ("DebtSheet", some "deepest"), [0], []⟩ := by kernel_rfl
theorem mt_even_rounds_0_DebtSheet (r : Pl → Fn) : mt_even_rounds_0 r "DebtSheet" = some ⟨r ("DebtSheet", some "even_rounds"), [0], []⟩ := by kernel_rfl
theorem mt_greatest_0_DebtSheet (r : Pl → Fn) : mt_greatest_0 r "DebtSheet" = some ⟨r ("DebtSheet", some "greatest"), [0], []⟩ := by kernel_rfl
theorem mt_is_even_1_DebtSheet (r : Pl → Fn) : mt_is_even_1 r "DebtSheet" = some ⟨r ("DebtSheet", some "is_even"), [0], []⟩ := by kernel_rfl
theorem mt_many_rounds_0_DebtSheet (r : Pl → Fn) : mt_many_rounds_0 r "DebtSheet" = some ⟨r ("DebtSheet", some "many_rounds"), [0], []⟩ := by kernel_rfl
end Tw
set_option Elab.async false
set_option linter.all false
set_option maxRecDepth 100000
/-! The checks of arguments. -/
namespace Tw
open PySem Ev
theorem s_is_integer (k : Nat) (v : Int) : run tb (k + 2) ("is_integer", none) [.d (.int v)] = some (.d (.bl true), []) := by
  rw [r_is_integer]
  unfold b_is_integer
  simp [isTs, tyD, known, isB]
theorem s_is_within (k : Nat) (v lo hi : Int) : run tb (k + 3) ("is_within", none) [.d (.int v), .d (.int lo), .d (.int hi)] = some (.d (.bl (decide (lo ≤ v ∧ v ≤ hi))), []) := by
  rw [r_is_within]
  unfold b_is_within
  simp [s_is_integer]
  by_cases h : v < lo <;> simp [h] <;> omega
theorem s_is_within0 (k : Nat) (v lo : Int) (h : lo ≤ v) : run tb (k + 3) ("is_within", none) [.d (.int v), .d (.int lo), .d .non] = some (.d (.bl true), []) := by
  rw [r_is_within]
  unfold b_is_within
  have : ¬ v < lo := by omega
  simp [s_is_integer, this]
theorem s_is_sequence (k : Nat) (xs : List D) : run tb (k + 2) ("is_sequence", none) [.d (.tup xs)] = some (.d (.bl true), []) := by
  rw [r_is_sequence]
  unfold b_is_sequence
  simp [isTs, tyD, known, isB]
theorem s_need (k : Nat) (a : M) : run tb (k + 2) ("need", none) [.d (.bl true), a] = some (.d .non, []) := by
  rw [r_need]
  unfold b_need
  simp
theorem s_need_integer (k : Nat) (v lo hi : Int) (a : M) (h : lo ≤ v ∧ v ≤ hi) : run tb (k + 4) ("need_integer", none) [.d (.int v), .d (.int lo), .d (.int hi), a] = some (.d (.int v), []) := by
  rw [r_need_integer]
  unfold b_need_integer
  simp [s_is_within, h]
theorem s_need_integer0 (k : Nat) (v lo : Int) (a : M) (h : lo ≤ v) : run tb (k + 4) ("need_integer", none) [.d (.int v), .d (.int lo), .d .non, a] = some (.d (.int v), []) := by
  rw [r_need_integer]
  unfold b_need_integer
  simp [s_is_within0, h]
theorem s_need_sequence (k : Nat) (xs : List D) (lo hi : Int) (a : M) (h : lo ≤ xs.length) (h2 : xs.length ≤ hi) : run tb (k + 3) ("need_sequence", none) [.d (.tup xs), .d (.int lo), .d (.int hi), a] = some (.d (.tup xs), []) := by
  rw [r_need_sequence]
  unfold b_need_sequence
  have e1 : ¬ (xs.length : Int) < lo := by omega
  have e2 : ¬ hi < (xs.length : Int) := by omega
  simp [s_is_sequence, e1, e2]
theorem s_need_sequence0 (k : Nat) (xs : List D) (lo : Int) (a : M) (h : lo ≤ xs.length) : run tb (k + 3) ("need_sequence", none) [.d (.tup xs), .d (.int lo), .d .non, a] = some (.d (.tup xs), []) := by
  rw [r_need_sequence]
  unfold b_need_sequence
  have e1 : ¬ (xs.length : Int) < lo := by omega
  simp [s_is_sequence, e1]
end Tw
set_option Elab.async false
set_option linter.all false
set_option maxRecDepth 100000
/-! Clubs and orders that are as they must be. -/
namespace Tw
open PySem Ev
/-- whole numbers from 0 -/
abbrev upto (n : Nat) : List Int := rangeI 0 n
theorem upto_len (n : Nat) : (upto n).length = n := by simp [upto, rangeI]
theorem upto_mem {n : Nat} {x : Int} : x ∈ upto n ↔ 0 ≤ x ∧ x < n := by
  simp only [upto, rangeI, List.mem_map, List.mem_range]
  constructor
  · rintro ⟨a, h1, rfl⟩; omega
  · rintro ⟨h1, h2⟩; exact ⟨x.toNat, by omega, by omega⟩
theorem upto_lt (n : Nat) : (upto n).Pairwise (· < ·) := by
  simp only [upto, rangeI, List.pairwise_map]
  exact List.Pairwise.imp (fun h => by omega) List.pairwise_lt_range
theorem upto_nodup (n : Nat) : (upto n).Nodup := (upto_lt n).imp fun h => by omega
theorem sorted_upto {ys : List Int} {n : Nat} (h : ys.Perm (upto n)) (hs : ys.Pairwise (· ≤ ·)) : ys = upto n :=
  h.eq_of_pairwise (le := (· ≤ ·)) (fun a b _ _ h1 h2 => by omega) hs ((upto_lt n).imp fun h => by omega)
theorem s_need_integers (k : Nat) (xs : List Int) (fw most lo hi : D) (a : M) (h1 : run tb (k + 3) ("need_sequence", none) [.d (.tup (xs.map .int)), .d fw, .d most, .d a.fz] = some (.d (.tup (xs.map .int)), []))
    (h2 : ∀ x ∈ xs, run tb (k + 3) ("is_within", none) [.d (.int x), .d lo, .d hi] = some (.d (.bl true), [])) (ha : a = .d a.fz) :
    run tb (k + 4) ("need_integers", none) [.d (.tup (xs.map .int)), .d fw, .d most, .d lo, .d hi, a] = some (.d (.tup (xs.map .int)), []) := by
  rw [r_need_integers]
  obtain ⟨e', hl, o, he⟩ := for_all (g := .n 7) (b := l_need_integers_0 (run tb (k + 3)) (run tb (k + 2))) (fun _ e => ∃ o, e = [some (.d (.tup (xs.map .int))), some (.d fw), some (.d most), some (.d lo), some (.d hi), some (.d a.fz), some (.d (.tup (xs.map .int))), o]) (xs.map .int) 0 _ ⟨none, rfl⟩ (by
    rintro i x e hx ⟨o, rfl⟩
    obtain ⟨v, hv, rfl⟩ := List.mem_map.mp (List.mem_of_getElem? hx)
    refine ⟨_, _, rfl, .inl ?_, some (.d (.int v)), rfl⟩
    unfold l_need_integers_0
    simp [h2 v hv])
  unfold b_need_integers
  rw [ha]
  subst he
  simp [h1, hl]
theorem s_need_unlike (k : Nat) (xs : List Int) (fw most lo hi : D) (a : M) (h1 : run tb (k + 4) ("need_integers", none) [.d (.tup (xs.map .int)), .d fw, .d most, .d lo, .d hi, a] = some (.d (.tup (xs.map .int)), []))
    (ha : a = .d a.fz) (hn : xs.Nodup) (hl : xs.length ≤ 4000) : run tb (k + 5) ("need_unlike", none) [.d (.tup (xs.map .int)), .d fw, .d most, .d lo, .d hi, a] = some (.d (.tup (xs.map .int)), []) := by
  rw [r_need_unlike]
  unfold b_need_unlike
  rw [ha] at h1 ⊢
  simp [h1, lenSet, asInts_i, hn, hl]
theorem s_check_club (k : Nat) (xs : List Int) (a : M) (h : 2 ≤ xs.length) (h2 : xs.length ≤ 7) (h3 : ∀ x ∈ xs, 1 ≤ x ∧ x ≤ 1000) (ha : a = .d a.fz) : run tb (k + 5) ("check_club", none) [.d (.tup (xs.map .int)), a, .d (.int 7)] = some (.d (.tup (xs.map .int)), []) := by
  rw [r_check_club]
  unfold b_check_club
  have := s_need_integers k xs (.int 2) (.int 7) (.int 1) (.int 1000) (.d a.fz) (s_need_sequence _ _ _ _ _ (by simp; omega) (by simp; omega)) (fun x hx => by rw [s_is_within]; simp [h3 x hx]) (by simp)
  rw [ha]
  simp [this]
theorem s_check_order (k : Nat) (xs : List Int) (a : M) (h2 : xs.length ≤ 4000) (h3 : ∀ x ∈ xs, 0 ≤ x) (hn : xs.Nodup) (ha : a = .d a.fz) : run tb (k + 6) ("check_order", none) [.d (.tup (xs.map .int)), a] = some (.d (.tup (xs.map .int)), []) := by
  rw [r_check_order]
  unfold b_check_order
  have h4 := s_need_integers k xs (.int 0) .non (.int 0) .non (.d a.fz) (s_need_sequence0 _ _ _ _ (by simp)) (fun x hx => s_is_within0 _ _ _ (h3 x hx)) (by simp)
  have := s_need_unlike k xs (.int 0) .non (.int 0) .non (.d a.fz) h4 (by simp) hn h2
  rw [ha]
  simp [this]
theorem s_check_number (k : Nat) (v : Int) (a : M) (h : 0 ≤ v) (ha : a = .d a.fz) : run tb (k + 5) ("check_number", none) [.d (.int v), a] = some (.d (.int v), []) := by
  rw [r_check_number]
  unfold b_check_number
  have := s_need_integer0 k v 0 (.d a.fz) h
  rw [ha]
  simp [this]
theorem s_is_order (k : Nat) (os : List Int) (n : Nat) (h : os.Perm (upto n)) (hn : n ≤ 1000) : run tb (k + 2) ("is_order", none) [.d (.tup (os.map .int)), .d (.int n)] = some (.d (.bl true), []) := by
  rw [r_is_order]
  unfold b_is_order
  have hl : os.length = n := by rw [h.length_eq, upto_len]
  obtain ⟨ys, h1, h2, h3, _⟩ := sort_i os (by rw [hl]; rw [line_nat]; omega)
  have e := sorted_upto (h1.trans h) h2
  have h4 := lrg1 n (by omega) (by omega)
  have h5 := eqD_li (upto n) (upto n)
  simp [h3, h4, e, h5]
theorem s_meet_order (k : Nat) (xs : List D) (os : List Int) (a : M) (h : os.Perm (upto xs.length)) (hn : xs.length ≤ 1000) (ha : a = .d a.fz) : run tb (k + 3) ("meet_order", none) [.d (.tup xs), .d (.tup (os.map .int)), a] = some (.d .non, []) := by
  rw [r_meet_order]
  unfold b_meet_order
  rw [ha]
  simp [s_is_order _ _ _ h hn, s_need]
theorem s_meet_number (k : Nat) (xs : List D) (v : Int) (a : M) (h : v < xs.length) (ha : a = .d a.fz) : run tb (k + 3) ("meet_number", none) [.d (.tup xs), .d (.int v), a] = some (.d .non, []) := by
  rw [r_meet_number]
  unfold b_meet_number
  rw [ha]
  simp [h, s_need]
end Tw
set_option Elab.async false
set_option linter.all false
set_option maxRecDepth 100000
/-! What each has behind a turn. -/
namespace Tw
open PySem Ev
theorem rng0_get {b : Int} {i : Nat} {x : D} (h : ((rangeI 0 b).map D.int)[i]? = some x) : x = .int i ∧ (i : Int) < b := by
  obtain ⟨h1, h2⟩ := rngI_get h
  exact ⟨by rw [h1, Int.zero_add], by omega⟩
/-- a club and an order of it -/
structure Clb (cs os : List Int) : Prop where
  lo : 2 ≤ cs.length
  hi : cs.length ≤ 7
  pay : ∀ x ∈ cs, 1 ≤ x ∧ x ≤ 1000
  ord : os.Perm (upto cs.length)
theorem Clb.len {cs os : List Int} (h : Clb cs os) : os.length = cs.length := by rw [h.ord.length_eq, upto_len]
theorem Clb.mem {cs os : List Int} (h : Clb cs os) {x : Int} : x ∈ os ↔ 0 ≤ x ∧ x < cs.length := by rw [h.ord.mem_iff, upto_mem]
theorem Clb.nd {cs os : List Int} (h : Clb cs os) : os.Nodup := h.ord.nodup_iff.mpr (upto_nodup _)
/-- what each has when the first i of os had theirs -/
def hasL (cs os : List Int) (t : Int) (i : Nat) : List Int := (List.range cs.length).map fun m : Nat => 0 - cs.getD m 0 * (t + 1) + (if (m : Int) ∈ os.take i then cs.sum else 0)
theorem hasL_len {cs os : List Int} {t : Int} {i : Nat} : (hasL cs os t i).length = cs.length := by simp [hasL]
theorem hasL_get {cs os : List Int} {t : Int} {i m : Nat} (hm : m < cs.length) : (hasL cs os t i)[m]? = some (0 - cs.getD m 0 * (t + 1) + (if (m : Int) ∈ os.take i then cs.sum else 0)) := by
  unfold hasL
  rw [List.getElem?_map, List.getElem?_range hm]; rfl
theorem hasL_0 {cs os : List Int} {t : Int} : hasL cs os t 0 = cs.map fun p => 0 - p * (t + 1) := by
  apply List.ext_getElem?
  intro m
  by_cases hm : m < cs.length
  · rw [hasL_get hm, List.getElem?_map, List.getElem?_eq_getElem hm]
    simp [List.getD_eq_getElem?_getD, List.getElem?_eq_getElem hm]
  · rw [List.getElem?_eq_none (by rw [hasL_len]; omega), List.getElem?_eq_none (by simp; omega)]
theorem hasL_set {cs os : List Int} {t : Int} {i m : Nat} (nd : os.Nodup) (hi : os[i]? = some (m : Int)) (hm : m < cs.length) :
    (hasL cs os t i).set m (0 - cs.getD m 0 * (t + 1) + cs.sum) = hasL cs os t (i + 1) := by
  have hil : i < os.length := (List.getElem?_eq_some_iff.mp hi).1
  apply List.ext_getElem?
  intro j
  by_cases hj : j < cs.length
  · rw [hasL_get hj]
    by_cases e : m = j
    · subst e
      rw [List.getElem?_set_self (by rw [hasL_len]; exact hm)]
      have : (m : Int) ∈ os.take (i + 1) := by
        rw [List.take_add_one, hi]; simp
      rw [if_pos this]
    · rw [List.getElem?_set_ne e, hasL_get hj]
      have : (j : Int) ∈ os.take (i + 1) ↔ (j : Int) ∈ os.take i := by
        rw [List.take_add_one, hi]
        simp
        intro z; omega
      simp only [this]
  · rw [List.getElem?_eq_none (by rw [List.length_set, hasL_len]; omega), List.getElem?_eq_none (by rw [hasL_len]; omega)]
theorem not_mem_take {os : List Int} {i : Nat} {x : Int} (nd : os.Nodup) (hi : os[i]? = some x) : x ∉ os.take i := by
  intro h
  obtain ⟨j, hj⟩ := List.mem_iff_getElem?.mp h
  rw [List.getElem?_take] at hj
  split at hj
  · rename_i hlt
    have h1 := (List.getElem?_eq_some_iff.mp hj)
    have h2 := (List.getElem?_eq_some_iff.mp hi)
    obtain ⟨a1, a2⟩ := h1
    obtain ⟨b1, b2⟩ := h2
    exact List.pairwise_iff_getElem.mp nd j i a1 b1 hlt (by rw [a2, b2])
  · cases hj
theorem s_stands (k : Nat) (cs os : List Int) (t : Int) (h : Clb cs os) (ht : 0 ≤ t ∧ t < cs.length) : run tb (k + 7) ("stands", none) [.d (.tup (cs.map .int)), .d (.tup (os.map .int)), .d (.int t)] = some (.d (.tup ((hasL cs os t (t.toNat + 1)).map .int)), []) := by
  rw [r_stands]
  have c1 := s_check_club (k + 1) cs (.d (.int 0)) h.lo h.hi h.pay (by simp)
  have c2 := s_check_order k os (.d (.int 1)) (by rw [h.len]; have := h.hi; omega) (fun x hx => (h.mem.mp hx).1) h.nd (by simp)
  have c3 := s_check_number (k + 1) t (.d (.int 2)) ht.1 (by simp)
  have c4 := s_meet_order (k + 3) (cs.map .int) os (.d (.int 1)) (by rw [List.length_map]; exact h.ord) (by rw [List.length_map]; have := h.hi; omega) (by simp)
  have c5 := s_meet_number (k + 3) (cs.map .int) t (.d (.int 2)) (by rw [List.length_map]; exact ht.2) (by simp)
  have hcomp := comp_same (vs := [8]) (it := iV (cK (kVar 3))) (g := .n 8) (t := tYes) (c := cBin .Sub (cP (pC (.int 0))) (cBin .Mult (cK (kVar 8)) (cBin .Add (cK (kVar 5)) (cP (pC (.int 1))))))
    (xs := cs.map .int) [some (.d (.tup (cs.map .int))), some (.d (.tup (os.map .int))), some (.d (.int t)), some (.d (.tup (cs.map .int))), some (.d (.tup (os.map .int))), some (.d (.int t)), some (.d (.int cs.sum)), none, none, none, none] (fun _ => true) (fun x => match x with | .int p => .d (.int (0 - p * (t + 1))) | _ => .d .non) (by simp) (by rw [List.length_map, line_nat]; have := h.hi; omega) (by simp) (by simp) (by
      intro x hx
      obtain ⟨p, hp, rfl⟩ := List.mem_map.mp hx
      have hm : binV .Mult (.int p) (.int (t + 1)) = some (.d (.int (p * (t + 1)))) := x_mul _ _ (mulL _ _ (by have := h.pay p hp; omega))
      refine ⟨_, rfl, ?_, rfl, fun _ => ?_⟩
      · simp
      · simp [hm])
  have hco : ((List.filter (fun _ => true) (cs.map D.int)).map (fun x => match x with | .int p => M.d (.int (0 - p * (t + 1))) | _ => .d .non)) = (hasL cs os t 0).map (M.d ∘ D.int) := by
    rw [hasL_0, List.filter_eq_self.mpr (fun _ _ => rfl), List.map_map, List.map_map]; rfl
  rw [hco] at hcomp
  obtain ⟨e', hl, o9, o10, he⟩ := for_all (g := .n 9) (b := l_stands_0 (run tb (k + 6)) (run tb (k + 5))) (fun i e => ∃ o9 o10, e = [some (.d (.tup (cs.map .int))), some (.d (.tup (os.map .int))), some (.d (.int t)), some (.d (.tup (cs.map .int))), some (.d (.tup (os.map .int))), some (.d (.int t)), some (.d (.int cs.sum)), some (.lst ((hasL cs os t i).map (M.d ∘ D.int))), none, o9, o10])
    ((rangeI 0 (t + 1)).map .int) 0 _ ⟨none, none, rfl⟩ (by
    rintro i x e hx ⟨o9, o10, rfl⟩
    obtain ⟨rfl, hi⟩ := rng0_get hx
    have hio : i < os.length := by rw [h.len]; omega
    have hmo := List.getElem_mem hio
    obtain ⟨m1, m2⟩ := h.mem.mp hmo
    obtain ⟨m, hm⟩ := Int.eq_ofNat_of_zero_le m1
    have hml : m < cs.length := by omega
    have g1 : L2.atI (os.map D.int) (i : Int) = some (.int m) := by
      refine at_nat (by omega) ?_
      rw [List.getElem?_map, show (i : Int).toNat = i by omega, List.getElem?_eq_getElem hio, hm]; rfl
    have hios : os[i]? = some (m : Int) := by rw [List.getElem?_eq_getElem hio, hm]
    have g2 : L2.ixN cs.length (m : Int) = some m := by
      have := ix_nat (n := cs.length) (i := m) (by omega) (by omega) (by rw [line_nat]; have := h.hi; omega)
      simpa using this
    have g3 := hasL_get (cs := cs) (os := os) (t := t) (i := i) hml
    have nm := not_mem_take h.nd hios
    rw [if_neg nm] at g3
    refine ⟨_, _, rfl, .inl ?_, some (.d (.int i)), some (.d (.int m)), rfl⟩
    unfold l_stands_0
    have g4 := hasL_set (cs := cs) (os := os) (t := t) h.nd hios hml
    simp only [Nat.zero_add] at *
    simp [g1, g2, hasL_len, g3]
    rw [← g4, List.map_set]
    simp)
  subst he
  unfold b_stands
  have hr := rng (t + 1) (by have := h.hi; omega) (by omega)
  have ht1 : (t + 1).toNat = t.toNat + 1 := by omega
  rw [rngI_len] at *
  simp [c1, c2, c3, c4, c5, hcomp, hr, hl, ht1]
end Tw
set_option Elab.async false
set_option linter.all false
set_option maxRecDepth 100000
/-! The sheet of debts. -/
namespace Tw
open PySem Ev
/-- what m is owed behind turn t -/
def owe (cs os : List Int) (t m : Nat) : Int := cs.getD m 0 * (t + 1) - (if (m : Int) ∈ os.take (t + 1) then cs.sum else 0)
def owL (cs os : List Int) (t : Nat) : List Int := (List.range cs.length).map (owe cs os t)
theorem owL_len {cs os : List Int} {t : Nat} : (owL cs os t).length = cs.length := by simp [owL]
theorem owL_get {cs os : List Int} {t m : Nat} (hm : m < cs.length) : (owL cs os t)[m]? = some (owe cs os t m) := by
  unfold owL; rw [List.getElem?_map, List.getElem?_range hm]; rfl
theorem owL_has {cs os : List Int} {t : Nat} : (hasL cs os t (t + 1)).map (fun x => -x) = owL cs os t := by
  unfold hasL owL owe
  rw [List.map_map]
  apply List.map_congr_left
  intro m _
  simp only [Function.comp]
  omega
def rowsD (cs os : List Int) : List D := (List.range cs.length).map fun t => .tup ((owL cs os t).map .int)
theorem rows_len {cs os : List Int} : (rowsD cs os).length = cs.length := by simp [rowsD]
theorem rows_get {cs os : List Int} {t : Nat} (ht : t < cs.length) : (rowsD cs os)[t]? = some (.tup ((owL cs os t).map .int)) := by
  unfold rowsD; rw [List.getElem?_map, List.getElem?_range ht]; rfl
abbrev sheet (cs os : List Int) : M := .obj "DebtSheet" ["rows"] [.d (.lst (rowsD cs os))]
theorem s_owed_behind (k : Nat) (cs os : List Int) (t : Nat) (h : Clb cs os) (ht : t < cs.length) : run tb (k + 8) ("owed_behind", none) [.d (.tup (cs.map .int)), .d (.tup (os.map .int)), .d (.int t)] = some (.d (.tup ((owL cs os t).map .int)), []) := by
  rw [r_owed_behind]
  have hs := s_stands k cs os t h ⟨by omega, by omega⟩
  have hcomp := comp_same (vs := [3]) (it := iV (cCall (run tb (k + 7) ("stands", none)) [] [] [(aV (cK (kVar 0))), (aV (cK (kVar 1))), (aV (cK (kVar 2)))])) (g := .n 3) (t := tYes) (c := cNeg (cK (kVar 3)))
    (xs := (hasL cs os t (t + 1)).map .int) [some (.d (.tup (cs.map .int))), some (.d (.tup (os.map .int))), some (.d (.int t)), none] (fun _ => true) (fun x => match x with | .int p => .d (.int (-p)) | _ => .d .non) (by simp [hs]) (by rw [List.length_map, hasL_len, line_nat]; have := h.hi; omega) (by simp) (by simp) (by
      intro x hx
      obtain ⟨p, hp, rfl⟩ := List.mem_map.mp hx
      refine ⟨_, rfl, ?_, rfl, fun _ => ?_⟩
      · simp
      · simp)
  have hco : ((List.filter (fun _ => true) ((hasL cs os t (t + 1)).map D.int)).map (fun x => match x with | .int p => M.d (.int (-p)) | _ => .d .non)) = (owL cs os t).map (M.d ∘ D.int) := by
    rw [← owL_has, List.filter_eq_self.mpr (fun _ _ => rfl), List.map_map, List.map_map]; rfl
  rw [hco] at hcomp
  unfold b_owed_behind
  simp [hcomp]
theorem s_init (k : Nat) (x : D) : run tb (k + 2) ("DebtSheet", some "__init__") [.obj "DebtSheet" [] [], .d x] = some (.d .non, [.obj "DebtSheet" ["rows"] [.d x]]) := by
  rw [r_DebtSheet___init__]
  unfold b_DebtSheet___init__
  have hf : (Tb.gt tb (run tb (k + 1)) (some (run tb k))).fa "DebtSheet" "rows" = true := by kernel_rfl
  simp [M.setF, fIx, hf]
theorem s_sheet_of (k : Nat) (cs os : List Int) (h : Clb cs os) : run tb (k + 9) ("sheet_of", none) [.d (.tup (cs.map .int)), .d (.tup (os.map .int))] = some (sheet cs os, []) := by
  rw [r_sheet_of]
  have hlo := h.lo
  have hhi := h.hi
  have ho := fun t ht => s_owed_behind k cs os t h ht
  have h0 : run tb (k + 8) ("owed_behind", none) [.d (.tup (cs.map .int)), .d (.tup (os.map .int)), .d (.int 0)] = some (.d (.tup ((owL cs os 0).map .int)), []) := ho 0 (by omega)
  obtain ⟨e', hl, o, he⟩ := for_all (g := .n 4) (b := l_sheet_of_0 (run tb (k + 8)) (run tb (k + 7))) (fun i e => ∃ o, e = [some (.d (.tup (cs.map .int))), some (.d (.tup (os.map .int))), some (.d (.tup ((owL cs os 0).map .int))), some (.lst (((rowsD cs os).take (i + 1)).map .d)), o])
    ((rangeI 1 cs.length).map .int) 0 _ ⟨none, rfl⟩ (by
    rintro i x e hx ⟨o, rfl⟩
    obtain ⟨rfl, hi⟩ := rngI_get hx
    have hti : i + 1 < cs.length := by omega
    have h1 := ho (i + 1) hti
    rw [show ((i + 1 : Nat) : Int) = (i : Int) + 1 by omega] at h1
    have ei : (1 + (i : Int)) = (i : Int) + 1 := by omega
    refine ⟨_, _, rfl, .inl ?_, some (.d (.int (1 + i))), rfl⟩
    unfold l_sheet_of_0
    have g1 : (rowsD cs os).take (i + 1 + 1) = (rowsD cs os).take (i + 1) ++ [.tup ((owL cs os (i + 1)).map .int)] := by
      rw [List.take_add_one (i := i + 1), rows_get hti]; rfl
    have g2 : ((List.take (i + 1) (rowsD cs os)).length < line) := by
      rw [List.length_take, rows_len, line_nat]; omega
    rw [ei]
    have g3 : (min (i + 1) cs.length < line) := by rw [line_nat]; omega
    rw [Nat.zero_add, g1]
    simp [h1, g3, rows_len])
  subst he
  unfold b_sheet_of
  have hr := rng2 1 cs.length (by omega) (by omega) (by omega) (by omega)
  have hm := s_init (k + 5) (.lst (rowsD cs os))
  have et : (rowsD cs os).take (0 + ((rangeI 1 cs.length).map D.int).length + 1) = rowsD cs os := by
    rw [List.take_of_length_le]; rw [rngI_len, rows_len]; omega
  have e0 : (rowsD cs os).take 1 = [.tup ((owL cs os 0).map .int)] := by
    rw [show 1 = 0 + 1 from rfl, List.take_add_one, rows_get (by omega)]; rfl
  rw [et] at hl
  rw [Nat.zero_add, e0] at hl
  have hlen : (1 : Nat) ≤ line := by rw [line_nat]; omega
  simp at hl
  simp [h0, hr, hl, hm, owL_len, hlen]
end Tw
set_option Elab.async false
set_option linter.all false
set_option maxRecDepth 100000
/-! The sheet's answers. -/
namespace Tw
open PySem Ev
@[simp] theorem fx_rows : fIx [("rows" : Str)] ("rows" : Str) = some 0 := by kernel_rfl
@[simp] theorem fx_1 : fIx [("rows" : Str)] ("many_rounds" : Str) = none := by kernel_rfl
@[simp] theorem fx_2 : fIx [("rows" : Str)] ("is_even" : Str) = none := by kernel_rfl
@[simp] theorem fx_3 : fIx [("rows" : Str)] ("even_rounds" : Str) = none := by kernel_rfl
@[simp] theorem fx_4 : fIx [("rows" : Str)] ("debt" : Str) = none := by kernel_rfl
@[simp] theorem fx_5 : fIx [("rows" : Str)] ("debts_of" : Str) = none := by kernel_rfl
@[simp] theorem fx_6 : fIx [("rows" : Str)] ("deepest" : Str) = none := by kernel_rfl
@[simp] theorem fx_7 : fIx [("rows" : Str)] ("greatest" : Str) = none := by kernel_rfl
theorem s_many (k : Nat) (cs os : List Int) : run tb (k + 2) ("DebtSheet", some "many_rounds") [sheet cs os] = some (.d (.int cs.length), [sheet cs os]) := by
  rw [r_DebtSheet_many_rounds]
  unfold b_DebtSheet_many_rounds
  simp [rows_len]
/-- nobody is owed anything -/
def evn (cs os : List Int) (t : Nat) : Bool := (owL cs os t).all fun x => decide (x ≤ 0)
theorem s_is_even (k : Nat) (cs os : List Int) (t : Nat) (ht : t < cs.length) : run tb (k + 2) ("DebtSheet", some "is_even") [sheet cs os, .d (.int t)] = some (.d (.bl (evn cs os t)), [sheet cs os]) := by
  rw [r_DebtSheet_is_even]
  have hrow : L2.atI (rowsD cs os) (t : Int) = some (.tup ((owL cs os t).map .int)) := at_nat (by omega) (by rw [show ((t : Int)).toNat = t by omega]; exact rows_get ht)
  obtain ⟨r, hl, hq⟩ := for_some (g := .n 2) (b := l_DebtSheet_is_even_0 (run tb (k + 1)) (run tb k)) (fun i e => (∃ o, e = [some (sheet cs os), some (.d (.int t)), o]) ∧ ((owL cs os t).take i).all (fun x => decide (x ≤ 0)) = true)
    (fun r => (∃ o, r = .nx [some (sheet cs os), some (.d (.int t)), o] ∧ evn cs os t = true) ∨ (∃ o, r = .rt (.d (.bl false)) [some (sheet cs os), some (.d (.int t)), o] ∧ evn cs os t = false))
    ((owL cs os t).map .int) 0 [some (sheet cs os), some (.d (.int t)), none] ⟨⟨none, rfl⟩, by simp⟩ (by
    rintro i x e hx ⟨⟨o, rfl⟩, hp⟩
    rw [List.getElem?_map] at hx
    cases hv : (owL cs os t)[i]? with
    | none => rw [hv] at hx; cases hx
    | some v =>
      rw [hv] at hx
      cases hx
      refine ⟨_, rfl, ?_⟩
      by_cases hv0 : 0 < v
      · refine .inr (.inr ⟨.d (.bl false), [some (sheet cs os), some (.d (.int t)), some (.d (.int v))], ?_, .inr ⟨some (.d (.int v)), rfl, ?_⟩⟩)
        · unfold l_DebtSheet_is_even_0
          simp [hv0]
        · unfold evn
          rw [List.all_eq_false]
          exact ⟨v, List.mem_of_getElem? hv, by simp; omega⟩
      · refine .inl ⟨_, .inl ?_, ⟨some (.d (.int v)), rfl⟩, ?_⟩
        · unfold l_DebtSheet_is_even_0
          simp [hv0]
        · rw [Nat.zero_add] at hp ⊢
          rw [List.take_add_one, hv, List.all_append, hp]
          simp; omega) (by
    rintro e ⟨⟨o, rfl⟩, hp⟩
    refine .inl ⟨o, rfl, ?_⟩
    rw [Nat.zero_add, List.length_map, List.take_length] at hp
    exact hp)
  unfold b_DebtSheet_is_even
  rcases hq with ⟨o, rfl, hq⟩ | ⟨o, rfl, hq⟩
  · simp [hrow, hl, hq]
  · simp [hrow, hl, hq]
/-- the turns after which nobody is owed anything -/
def evnL (cs os : List Int) : List Nat := (List.range cs.length).filter (evn cs os)
theorem s_even_rounds (k : Nat) (cs os : List Int) (hh : cs.length ≤ 1000) : run tb (k + 3) ("DebtSheet", some "even_rounds") [sheet cs os] = some (.d (.tup ((evnL cs os).map fun t : Nat => D.int (t : Int))), [sheet cs os]) := by
  rw [r_DebtSheet_even_rounds]
  have hm := s_many k cs os
  have he := fun t ht => s_is_even k cs os t ht
  obtain ⟨e', hl, o, hee⟩ := for_all (g := .n 2) (b := l_DebtSheet_even_rounds_0 (run tb (k + 2)) (run tb (k + 1))) (fun i e => ∃ o, e = [some (sheet cs os), some (.lst (((List.range i).filter (evn cs os)).map fun t : Nat => M.d (.int t))), o])
    ((rangeI 0 cs.length).map .int) 0 _ ⟨none, rfl⟩ (by
    rintro i x e hx ⟨o, rfl⟩
    obtain ⟨rfl, hi⟩ := rng0_get hx
    have hti : i < cs.length := by omega
    have h1 := he i hti
    rw [Nat.zero_add]
    refine ⟨_, _, rfl, .inl ?_, some (.d (.int i)), rfl⟩
    unfold l_DebtSheet_even_rounds_0
    rw [List.range_succ, List.filter_append]
    have g : (List.filter (evn cs os) (List.range i)).length < line := by
      have := List.length_filter_le (evn cs os) (List.range i)
      rw [List.length_range] at this
      rw [line_nat]; omega
    cases hb : evn cs os i with
    | true => rw [hb] at h1; simp [mt_is_even_1_DebtSheet, h1, hb, g]
    | false => rw [hb] at h1; simp [mt_is_even_1_DebtSheet, h1, hb])
  subst hee
  rw [rngI_len] at hl
  unfold b_DebtSheet_even_rounds
  have hr := rng (cs.length : Int) (by omega) (by omega)
  have hln : (0 : Nat) ≤ line := Nat.zero_le _
  simp at hl
  simp [mt_many_rounds_0_DebtSheet, hm, hr, hl, evnL]
/-- what m owes behind turn t -/
def dbt (cs os : List Int) (m t : Nat) : Int := if - owe cs os t m > 0 then - owe cs os t m else 0
theorem s_debt (k : Nat) (cs os : List Int) (m t : Nat) (hm : m < cs.length) (ht : t < cs.length) : run tb (k + 2) ("DebtSheet", some "debt") [sheet cs os, .d (.int m), .d (.int t)] = some (.d (.int (dbt cs os m t)), [sheet cs os]) := by
  rw [r_DebtSheet_debt]
  have hrow : L2.atI (rowsD cs os) (t : Int) = some (.tup ((owL cs os t).map .int)) := at_nat (by omega) (by rw [show ((t : Int)).toNat = t by omega]; exact rows_get ht)
  have hcol : L2.atI ((owL cs os t).map D.int) (m : Int) = some (.int (owe cs os t m)) := at_nat (by omega) (by rw [show ((m : Int)).toNat = m by omega, List.getElem?_map, owL_get hm]; rfl)
  unfold b_DebtSheet_debt
  simp [hrow, hcol, dbt]
def dbtL (cs os : List Int) (m : Nat) : List Int := (List.range cs.length).map (dbt cs os m)
theorem s_debts_of (k : Nat) (cs os : List Int) (m : Nat) (hm : m < cs.length) (hh : cs.length ≤ 1000) : run tb (k + 3) ("DebtSheet", some "debts_of") [sheet cs os, .d (.int m)] = some (.lst ((dbtL cs os m).map (M.d ∘ D.int)), [sheet cs os]) := by
  rw [r_DebtSheet_debts_of]
  have h1 := s_many k cs os
  have h2 := fun t ht => s_debt k cs os m t hm ht
  have hr := rng (cs.length : Int) (by omega) (by omega)
  have hcomp := comp_same (vs := [2]) (it := iRng [(cMeth "many_rounds" (mt_many_rounds_0 (run tb (k + 2))) (aL 0) [])]) (g := .n 2) (t := tYes) (c := cMeth "debt" (mt_debt_2 (run tb (k + 2))) (aL 0) [(aV (cK (kVar 1))), (aV (cK (kVar 2)))])
    (xs := (rangeI 0 cs.length).map .int) [some (sheet cs os), some (.d (.int m)), none] (fun _ => true) (fun x => match x with | .int p => .d (.int (dbt cs os m p.toNat)) | _ => .d .non) (by simp [mt_many_rounds_0_DebtSheet, h1, hr]) (by rw [rngI_len, line_nat]; omega) (by simp) (by simp) (by
      intro x hx
      obtain ⟨i, hi⟩ := List.mem_iff_getElem?.mp hx
      obtain ⟨rfl, hi⟩ := rng0_get hi
      have := h2 i (by omega)
      refine ⟨_, rfl, ?_, rfl, fun _ => ?_⟩
      · simp
      · simp [mt_debt_2_DebtSheet, this])
  have hco : ((List.filter (fun _ => true) ((rangeI 0 cs.length).map D.int)).map (fun x => match x with | .int p => M.d (.int (dbt cs os m p.toNat)) | _ => .d .non)) = (dbtL cs os m).map (M.d ∘ D.int) := by
    rw [List.filter_eq_self.mpr (fun _ _ => rfl), List.map_map]
    unfold dbtL rangeI
    rw [List.map_map, List.map_map]
    simp
  rw [hco] at hcomp
  unfold b_DebtSheet_debts_of
  simp [hcomp]
theorem dbtL_len {cs os : List Int} {m : Nat} : (dbtL cs os m).length = cs.length := by simp [dbtL]
/-- the greatest of a row, its first place -/
def top1 (xs : List Int) : Int := match xs with | [] => 0 | a :: r => r.foldl max a
theorem top1_mem : ∀ {xs : List Int}, xs ≠ [] → top1 xs ∈ xs ∧ ∀ x ∈ xs, x ≤ top1 xs
  | [], h => absurd rfl h
  | a :: r, _ => by
    have gen : ∀ (r : List Int) (a : Int), (r.foldl max a = a ∨ r.foldl max a ∈ r) ∧ a ≤ r.foldl max a ∧ ∀ x ∈ r, x ≤ r.foldl max a := by
      intro r
      induction r with
      | nil => intro a; simp
      | cons b r ih =>
        intro a
        obtain ⟨h1, h2, h3⟩ := ih (max a b)
        simp only [List.foldl_cons, List.mem_cons]
        refine ⟨?_, by omega, ?_⟩
        · rcases h1 with h1 | h1
          · rw [h1]
            by_cases h : a ≤ b
            · right; left; omega
            · left; omega
          · exact .inr (.inr h1)
        · rintro x (rfl | hx)
          · omega
          · exact h3 x hx
    obtain ⟨h1, h2, h3⟩ := gen r a
    refine ⟨?_, ?_⟩
    · rcases h1 with h1 | h1
      · exact List.mem_cons.mpr (.inl h1)
      · exact List.mem_cons_of_mem _ h1
    · intro x hx
      rcases List.mem_cons.mp hx with rfl | hx
      · exact h2
      · exact h3 x hx
theorem s_deepest (k : Nat) (cs os : List Int) (m : Nat) (hm : m < cs.length) (hh : cs.length ≤ 1000) : run tb (k + 4) ("DebtSheet", some "deepest") [sheet cs os, .d (.int m)] = some (.d (.tup [.int (top1 (dbtL cs os m)), .int ((dbtL cs os m).idxOf (top1 (dbtL cs os m)))]), [sheet cs os]) := by
  rw [r_DebtSheet_deepest]
  have h1 := s_debts_of k cs os m hm hh
  have ne : dbtL cs os m ≠ [] := by
    intro z
    have := dbtL_len (cs := cs) (os := os) (m := m)
    rw [z] at this
    simp at this; omega
  have hmax : maxD (.lst ((dbtL cs os m).map .int)) = some (.d (.int (top1 (dbtL cs os m)))) := by
    cases h : dbtL cs os m with
    | nil => exact absurd h ne
    | cons a r => exact (max_i a r).2
  have hidx := idx_i _ _ (top1_mem ne).1
  have hln : 2 ≤ line := by rw [line_nat]; omega
  unfold b_DebtSheet_deepest
  simp [mt_debts_of_1_DebtSheet, h1, hmax, hidx, hln]
end Tw
set_option Elab.async false
set_option linter.all false
set_option maxRecDepth 100000
/-! The greatest debt; what is owed; the judges. -/
namespace Tw
open PySem Ev
/-- the first member, of the first i, that owes the most, and since when -/
def bst (cs os : List Int) : Nat → Option (Int × Nat × Nat)
  | 0 => none
  | i + 1 => match bst cs os i with
    | none => some (top1 (dbtL cs os i), i, (dbtL cs os i).idxOf (top1 (dbtL cs os i)))
    | some b => if top1 (dbtL cs os i) > b.1 then some (top1 (dbtL cs os i), i, (dbtL cs os i).idxOf (top1 (dbtL cs os i))) else some b
def tri : Option (Int × Nat × Nat) → D
  | none => .non
  | some (p, m, t) => .tup [.int p, .int m, .int t]
theorem s_greatest (k : Nat) (cs os : List Int) (hh : cs.length ≤ 1000) : run tb (k + 5) ("DebtSheet", some "greatest") [sheet cs os] = some (.d (tri (bst cs os cs.length)), [sheet cs os]) := by
  rw [r_DebtSheet_greatest]
  have h1 := s_many (k + 2) cs os
  have h2 := fun m hm => s_deepest k cs os m hm hh
  have hr := rng (cs.length : Int) (by omega) (by omega)
  have hln : 3 ≤ line := by rw [line_nat]; omega
  obtain ⟨e', hl, o2, o3, o4, hee⟩ := for_all (g := .n 2) (b := l_DebtSheet_greatest_0 (run tb (k + 4)) (run tb (k + 3))) (fun i e => ∃ o2 o3 o4, e = [some (sheet cs os), some (.d (tri (bst cs os i))), o2, o3, o4])
    ((rangeI 0 cs.length).map .int) 0 _ ⟨none, none, none, rfl⟩ (by
    rintro i x e hx ⟨o2, o3, o4, rfl⟩
    obtain ⟨rfl, hi⟩ := rng0_get hx
    have hti : i < cs.length := by omega
    have h3 := h2 i hti
    rw [Nat.zero_add]
    refine ⟨_, _, rfl, .inl ?_, some (.d (.int i)), some (.d (.int (top1 (dbtL cs os i)))), some (.d (.int ((dbtL cs os i).idxOf (top1 (dbtL cs os i))))), rfl⟩
    unfold l_DebtSheet_greatest_0
    cases hb : bst cs os i with
    | none => simp [mt_deepest_1_DebtSheet, h3, bst, hb, tri, hln]
    | some b =>
      obtain ⟨p, m, t⟩ := b
      have g0 : L2.atI [D.int p, D.int m, D.int t] 0 = some (.int p) := at_nat (by omega) rfl
      by_cases hp : p < top1 (dbtL cs os i)
      · simp [mt_deepest_1_DebtSheet, h3, bst, hb, tri, g0, hp, hln]
      · simp [mt_deepest_1_DebtSheet, h3, bst, hb, tri, g0, hp, hln])
  subst hee
  rw [rngI_len] at hl
  unfold b_DebtSheet_greatest
  have e0 : tri (bst cs os 0) = .non := rfl
  simp [e0] at hl
  simp [mt_many_rounds_0_DebtSheet, h1, hr, hl]
theorem bst_is {cs os : List Int} : ∀ {i : Nat} {p : Int} {m t : Nat}, bst cs os i = some (p, m, t) → m < i ∧ p = top1 (dbtL cs os m) ∧ t = (dbtL cs os m).idxOf p ∧ ∀ j < i, top1 (dbtL cs os j) ≤ p ∧ (j < m → top1 (dbtL cs os j) < p)
  | 0, p, m, t, h => by simp [bst] at h
  | i + 1, p, m, t, h => by
    unfold bst at h
    cases hb : bst cs os i with
    | none =>
      have i0 : i = 0 := by
        cases i with
        | zero => rfl
        | succ j =>
          exfalso
          unfold bst at hb
          split at hb
          · cases hb
          · split at hb <;> cases hb
      subst i0
      rw [hb] at h
      simp only [Option.some.injEq, Prod.mk.injEq] at h
      obtain ⟨rfl, rfl, rfl⟩ := h
      refine ⟨by omega, rfl, rfl, fun j hj => ?_⟩
      have : j = 0 := by omega
      subst this
      exact ⟨Int.le_refl _, by omega⟩
    | some b =>
      obtain ⟨p0, m0, t0⟩ := b
      obtain ⟨a1, a2, a3, a4⟩ := bst_is hb
      rw [hb] at h
      simp only at h
      split at h
      · rename_i hgt
        simp only [Option.some.injEq, Prod.mk.injEq] at h
        obtain ⟨rfl, rfl, rfl⟩ := h
        refine ⟨by omega, rfl, rfl, fun j hj => ?_⟩
        by_cases e : j = i
        · subst e; exact ⟨Int.le_refl _, by omega⟩
        · have := (a4 j (by omega)).1
          exact ⟨by omega, fun _ => by omega⟩
      · rename_i hgt
        simp only [Option.some.injEq, Prod.mk.injEq] at h
        obtain ⟨rfl, rfl, rfl⟩ := h
        refine ⟨by omega, a2, a3, fun j hj => ?_⟩
        by_cases e : j = i
        · subst e; exact ⟨by omega, by omega⟩
        · exact a4 j (by omega)
theorem bst_some {cs os : List Int} : ∀ {i : Nat}, 0 < i → ∃ p m t, bst cs os i = some (p, m, t)
  | 0, h => by omega
  | i + 1, _ => by
    unfold bst
    split
    · exact ⟨_, _, _, rfl⟩
    · rename_i b _
      split
      · exact ⟨_, _, _, rfl⟩
      · exact ⟨b.1, b.2.1, b.2.2, rfl⟩
/-! ### the judge of what is owed -/
theorem cut0 {α : Type} (xs : List α) (n : Nat) : cut xs none (some (n : Int)) = xs.take n := by
  unfold cut
  have h1 : HT.sIx xs.length 0 (none : Option Int) = 0 := by simp [HT.sIx]
  have h2 : HT.sIx xs.length xs.length (some (n : Int)) = min n xs.length := HT.sIx_nat xs.length xs.length n
  rw [h1, h2]
  simp
theorem cnt_nd {os : List Int} (nd : os.Nodup) (i : Nat) (x : Int) : ((os.take i).count x : Int) = if x ∈ os.take i then 1 else 0 := by
  have nd2 : (os.take i).Nodup := nd.sublist (List.take_sublist _ _)
  by_cases h : x ∈ os.take i
  · rw [if_pos h]
    have := nd2.count (a := x)
    rw [this, if_pos h]; rfl
  · rw [if_neg h, List.count_eq_zero.mpr h]; rfl
theorem s_are_owed (k : Nat) (cs os : List Int) (t : Nat) (h : Clb cs os) (ht : t < cs.length) : run tb (k + 2) ("are_owed", none) [.d (.tup (cs.map .int)), .d (.tup (os.map .int)), .d (.int t), .d (.tup ((owL cs os t).map .int))] = some (.d (.bl true), []) := by
  rw [r_are_owed]
  have hlo := h.lo
  have hhi := h.hi
  obtain ⟨hs, ehs⟩ : ∃ hs, hs = os.take (t + 1) := ⟨_, rfl⟩
  obtain ⟨e', hl, o6, o7, hee⟩ := for_all (g := .t [.n 6, .n 7]) (b := l_are_owed_0 (run tb (k + 1)) (run tb k)) (fun i e => ∃ o6 o7, e = [some (.d (.tup (cs.map .int))), some (.d (.tup (os.map .int))), some (.d (.int t)), some (.d (.tup ((owL cs os t).map .int))), some (.d (.int cs.sum)), some (.lst ((hs.map D.int).map .d)), o6, o7])
    (enumD (cs.map .int)) 0 _ ⟨none, none, rfl⟩ (by
    rintro i x e hx ⟨o6, o7, rfl⟩
    have hi : i < cs.length := by
      have := lt_of_some hx
      rw [enum_len, List.length_map] at this; exact this
    have hx2 := enum_get (xs := cs.map D.int) (i := i) (by rw [List.length_map]; exact hi)
    rw [hx] at hx2
    cases hx2
    have hci : cs[i] = cs.getD i 0 := by simp [List.getD_eq_getElem?_getD, List.getElem?_eq_getElem hi]
    have hm : binV .Mult (.int cs[i]) (.int ((t : Int) + 1)) = some (.d (.int (cs[i] * (t + 1)))) := x_mul _ _ (mulL _ _ (by have := h.pay cs[i] (List.getElem_mem hi); omega))
    have hrow : L2.atI ((owL cs os t).map D.int) (i : Int) = some (.int (owe cs os t i)) := at_nat (by omega) (by rw [show ((i : Int)).toNat = i by omega, List.getElem?_map, owL_get hi]; rfl)
    have hcn := cnt_i (i : Int) hs
    have hc01 := cnt_nd h.nd (t + 1) (i : Int)
    rw [← ehs] at hc01
    have hm2 : binV .Mult (.int cs.sum) (.int (hs.count (i : Int))) = some (.d (.int (cs.sum * (hs.count (i : Int) : Int)))) := x_mul _ _ (mulR _ _ (by rw [hc01]; split <;> omega))
    have hval : owe cs os t i = cs[i] * ((t : Int) + 1) - cs.sum * (hs.count (i : Int) : Int) := by
      unfold owe
      rw [← ehs, hc01, hci]
      split <;> simp
    refine ⟨_, _, rfl, .inl ?_, some (.d (.int i)), some (.d (.int cs[i])), rfl⟩
    unfold l_are_owed_0
    rw [hval] at hrow
    simp [hrow, hm, hm2, hcn])
  subst hee
  have hsl : sliceV (.lst (os.map D.int)) none (some ((t : Int) + 1)) = some (.lst ((hs.map D.int).map .d)) := by
    have e : ((t : Int) + 1) = ((t + 1 : Nat) : Int) := by omega
    rw [e]
    show some (M.lst ((cut (os.map D.int) none (some ((t + 1 : Nat) : Int))).map .d)) = _
    rw [cut0, ← List.map_take, ehs]
  unfold b_are_owed
  simp at hl hsl
  simp [hsl, hl, owL_len]
theorem s_owed_now (k : Nat) (cs os : List Int) (t : Nat) (h : Clb cs os) (ht : t < cs.length) : run tb (k + 9) ("owed_now", none) [.d (.tup (cs.map .int)), .d (.tup (os.map .int)), .d (.int t)] = some (.d (.tup ((owL cs os t).map .int)), []) := by
  rw [r_owed_now]
  have h1 := s_owed_behind k cs os t h ht
  have h2 := s_are_owed (k + 6) cs os t h ht
  unfold b_owed_now
  simp [h1, h2]
theorem s_fair_end (k : Nat) (cs os : List Int) (h : Clb cs os) : run tb (k + 10) ("fair_end", none) [.d (.tup (cs.map .int)), .d (.tup (os.map .int))] = some (.d (.tup ((evnL cs os).map fun t : Nat => D.int (t : Int))), []) := by
  rw [r_fair_end]
  have h1 := s_sheet_of k cs os h
  have h2 := s_even_rounds (k + 6) cs os (by have := h.hi; omega)
  unfold b_fair_end
  simp [h1, mt_even_rounds_0_DebtSheet, h2]
end Tw
set_option Elab.async false
set_option linter.all false
set_option maxRecDepth 100000
/-! The greatest debt is the greatest. -/
namespace Tw
open PySem Ev
/-- P is owed by m0 behind t0; nobody owes more, and as much nobody ahead of m0, nor m0 sooner -/
structure G1 (cs os : List Int) (P : Int) (m0 t0 : Nat) : Prop where
  pos : 0 < P
  lm : m0 < cs.length
  lt : t0 < cs.length
  eq : owe cs os t0 m0 = -P
  all : ∀ t < cs.length, ∀ m < cs.length, -P ≤ owe cs os t m ∧ ((m < m0 ∨ (m = m0 ∧ t < t0)) → owe cs os t m ≠ -P)
theorem G1.uniq {cs os : List Int} {P P' : Int} {m m' t t' : Nat} (a : G1 cs os P m t) (b : G1 cs os P' m' t') : P = P' ∧ m = m' ∧ t = t' := by
  have e : P = P' := by
    have h1 := (a.all t' b.lt m' b.lm).1
    have h2 := (b.all t a.lt m a.lm).1
    rw [b.eq] at h1
    rw [a.eq] at h2
    omega
  subst e
  have h1 := (a.all t' b.lt m' b.lm).2
  have h2 := (b.all t a.lt m a.lm).2
  have h3 : ¬ (m' < m ∨ (m' = m ∧ t' < t)) := fun z => h1 z b.eq
  have h4 : ¬ (m < m' ∨ (m = m' ∧ t < t')) := fun z => h2 z a.eq
  omega
theorem dbt_get {cs os : List Int} {m t : Nat} (ht : t < cs.length) : (dbtL cs os m)[t]? = some (dbt cs os m t) := by
  unfold dbtL; rw [List.getElem?_map, List.getElem?_range ht]; rfl
theorem bst_G1 {cs os : List Int} {p : Int} {m t : Nat} (h : bst cs os cs.length = some (p, m, t)) (neg : ∃ t < cs.length, ∃ m < cs.length, owe cs os t m < 0) : G1 cs os p m t := by
  obtain ⟨h1, h2, h3, h4⟩ := bst_is h
  have ne : ∀ j, dbtL cs os j ≠ [] := fun j z => by
    have := dbtL_len (cs := cs) (os := os) (m := j)
    rw [z] at this
    simp at this; omega
  have le : ∀ j < cs.length, ∀ s < cs.length, dbt cs os j s ≤ top1 (dbtL cs os j) := fun j hj s hs => (top1_mem (ne j)).2 _ (List.mem_of_getElem? (dbt_get hs))
  have pos : 0 < p := by
    obtain ⟨s, hs, j, hj, hn⟩ := neg
    have a := le j hj s hs
    have b := (h4 j hj).1
    have : dbt cs os j s = - owe cs os s j := by unfold dbt; rw [if_pos (by omega)]
    omega
  have pm : p ∈ dbtL cs os m := by rw [h2]; exact (top1_mem (ne m)).1
  have tl : t < cs.length := by
    rw [h3, ← dbtL_len (cs := cs) (os := os) (m := m)]
    exact List.idxOf_lt_length_iff.mpr pm
  have pt : dbt cs os m t = p := by
    have a := dbt_get (cs := cs) (os := os) (m := m) tl
    have b : (dbtL cs os m)[t]? = some p := by
      rw [List.getElem?_eq_getElem (by rw [dbtL_len]; exact tl)]
      congr 1
      subst h3
      exact List.getElem_idxOf (by rw [dbtL_len]; exact tl)
    rw [a] at b
    exact Option.some.inj b
  refine ⟨pos, h1, tl, ?_, fun s hs j hj => ⟨?_, fun hc hz => ?_⟩⟩
  · unfold dbt at pt
    split at pt <;> omega
  · have a := le j hj s hs
    have b := (h4 j hj).1
    unfold dbt at a
    split at a <;> omega
  · have dz : dbt cs os j s = p := by
      unfold dbt
      rw [hz, if_pos (by omega)]; omega
    rcases hc with hc | ⟨rfl, hc⟩
    · have a := le j hj s hs
      have b := (h4 j hj).2 hc
      omega
    · have a : (dbtL cs os j)[s]? = some p := by rw [dbt_get hs, dz]
      have b : (dbtL cs os j).idxOf p ≤ s := by
        obtain ⟨a1, a2⟩ := List.getElem?_eq_some_iff.mp a
        by_cases z : (dbtL cs os j).idxOf p ≤ s
        · exact z
        · exact absurd a2 (List.not_of_lt_findIdx (p := (· == p)) (xs := dbtL cs os j) (i := s) (by unfold List.idxOf at z; omega) |> fun q => by simpa using q)
      omega
theorem s_is_greatest (k : Nat) (cs os : List Int) (P : Int) (m0 t0 : Nat) (g : G1 cs os P m0 t0) (hh : cs.length ≤ 1000) :
    run tb (k + 2) ("is_greatest", none) [.d (.lst (rowsD cs os)), .d (.tup [.int P, .int m0, .int t0])] = some (.d (.bl true), []) := by
  rw [r_is_greatest]
  have hpos := g.pos
  obtain ⟨e', hl, o5, o6, o7, o8, o9, hee⟩ := for_all (g := .t [.n 5, .n 6]) (b := l_is_greatest_1 (run tb (k + 1)) (run tb k)) (fun i e => ∃ o5 o6 o7 o8 o9, e = [some (.d (.lst (rowsD cs os))), some (.d (.tup [.int P, .int m0, .int t0])), some (.d (.int P)), some (.d (.int m0)), some (.d (.int t0)), o5, o6, o7, o8, o9])
    (enumD (rowsD cs os)) 0 _ ⟨none, none, none, none, none, rfl⟩ (by
    rintro i x e hx ⟨o5, o6, o7, o8, o9, rfl⟩
    have hi : i < cs.length := by
      have := lt_of_some hx
      rw [enum_len, rows_len] at this; exact this
    have hx2 := enum_get (xs := rowsD cs os) (i := i) (by rw [rows_len]; exact hi)
    rw [hx] at hx2
    cases hx2
    have hrow : (rowsD cs os)[i]'(by rw [rows_len]; exact hi) = .tup ((owL cs os i).map .int) := by
      have := rows_get (cs := cs) (os := os) hi
      rw [List.getElem?_eq_getElem (by rw [rows_len]; exact hi)] at this
      exact Option.some.inj this
    rw [hrow]
    obtain ⟨e2, hl2, p7, p8, p9, hee2⟩ := for_all (g := .t [.n 7, .n 8]) (b := l_is_greatest_0 (run tb (k + 1)) (run tb k)) (fun j e => ∃ o7 o8 o9, e = [some (.d (.lst (rowsD cs os))), some (.d (.tup [.int P, .int m0, .int t0])), some (.d (.int P)), some (.d (.int m0)), some (.d (.int t0)), some (.d (.int i)), some (.d (.tup ((owL cs os i).map .int))), o7, o8, o9])
      (enumD ((owL cs os i).map .int)) 0 _ ⟨o7, o8, o9, rfl⟩ (by
      rintro j x e hx ⟨o7, o8, o9, rfl⟩
      have hj : j < cs.length := by
        have := lt_of_some hx
        rw [enum_len, List.length_map, owL_len] at this; exact this
      have hx2 := enum_get (xs := (owL cs os i).map D.int) (i := j) (by rw [List.length_map, owL_len]; exact hj)
      rw [hx] at hx2
      cases hx2
      have hcell : ((owL cs os i).map D.int)[j]'(by rw [List.length_map, owL_len]; exact hj) = .int (owe cs os i j) := by
        have := owL_get (cs := cs) (os := os) (t := i) hj
        rw [List.getElem_map]
        rw [List.getElem?_eq_getElem (by rw [owL_len]; exact hj)] at this
        rw [Option.some.inj this]
      rw [hcell]
      obtain ⟨a1, a2⟩ := g.all i hi j hj
      have n1 : ¬ owe cs os i j < -P := by omega
      refine ⟨_, _, rfl, .inl ?_, some (.d (.int j)), some (.d (.int (owe cs os i j))), some (.d (.bl (decide (j < m0 ∨ (j = m0 ∧ i < t0))))), rfl⟩
      unfold l_is_greatest_0
      by_cases hc : j < m0 ∨ (j = m0 ∧ i < t0)
      · have n2 := a2 hc
        rcases hc with hc | ⟨rfl, hc⟩
        · have c1 : (j : Int) < m0 := by omega
          simp [c1, n1, n2, hc]
        · have c1 : (i : Int) < t0 := by omega
          simp [c1, n1, n2, hc]
      · have d1 : ¬ (j : Int) < m0 := by omega
        by_cases e : j = m0
        · subst e
          have d2 : ¬ (i : Int) < t0 := by omega
          have d3 : ¬ i < t0 := by omega
          simp [n1, d2, d3]
        · have d2 : ¬ (j : Int) = m0 := by omega
          have d3 : ¬ j < m0 := by omega
          simp [d1, n1, d2, d3, e])
    subst hee2
    refine ⟨_, _, rfl, .inl ?_, some (.d (.int i)), some (.d (.tup ((owL cs os i).map .int))), p7, p8, p9, rfl⟩
    unfold l_is_greatest_1
    simp [hl2])
  subst hee
  have hrow : L2.atI (rowsD cs os) (t0 : Int) = some (.tup ((owL cs os t0).map .int)) := at_nat (by omega) (by rw [show ((t0 : Int)).toNat = t0 by omega]; exact rows_get g.lt)
  have hcol : L2.atI ((owL cs os t0).map D.int) (m0 : Int) = some (.int (-P)) := at_nat (by omega) (by rw [show ((m0 : Int)).toNat = m0 by omega, List.getElem?_map, owL_get g.lm, g.eq]; rfl)
  have hp : ¬ P ≤ 0 := by omega
  unfold b_is_greatest
  simp [hrow, hcol, hl, hp]
theorem s_greatest_debt (k : Nat) (cs os : List Int) (h : Clb cs os) (P : Int) (m0 t0 : Nat) (g : G1 cs os P m0 t0) : run tb (k + 10) ("greatest_debt", none) [.d (.tup (cs.map .int)), .d (.tup (os.map .int))] = some (.d (.tup [.int P, .int m0, .int t0]), []) := by
  rw [r_greatest_debt]
  have hhi := h.hi
  have hlo := h.lo
  have h1 := s_sheet_of k cs os h
  have h2 := s_greatest (k + 4) cs os (by omega)
  have hb : tri (bst cs os cs.length) = .tup [.int P, .int m0, .int t0] := by
    obtain ⟨p, m, t, hb⟩ := bst_some (cs := cs) (os := os) (i := cs.length) (by omega)
    have g2 := bst_G1 hb ⟨t0, g.lt, m0, g.lm, by rw [g.eq]; have := g.pos; omega⟩
    obtain ⟨rfl, rfl, rfl⟩ := g.uniq g2
    rw [hb]; rfl
  rw [hb] at h2
  have h3 := s_is_greatest (k + 7) cs os P m0 t0 g (by omega)
  unfold b_greatest_debt
  simp [h1, mt_greatest_0_DebtSheet, h2, h3]
end Tw
set_option Elab.async false
set_option linter.all false
set_option maxRecDepth 100000
/-! The law's own drawing. -/
namespace Tw
open PySem Ev
/-- what is drawn at a place -/
def drawV (row : List Int) (a : Nat) (lim : Int) : Int := if a < row.length then row.getD a 0 % lim else (((row.getD (a % row.length) 0 * 40692 + a * 7919 + 3) % 2147483399) * 48271 + a) % 2147483647 % lim
theorem draw_in {row : List Int} {a : Nat} {lim : Int} (h : 0 < lim) : 0 ≤ drawV row a lim ∧ drawV row a lim < lim := by
  unfold drawV
  split
  · exact ⟨Int.emod_nonneg _ (by omega), Int.emod_lt_of_pos _ h⟩
  · exact ⟨Int.emod_nonneg _ (by omega), Int.emod_lt_of_pos _ h⟩
abbrev Row (row : List Int) : M := .d (.lst (row.map .int))
abbrev Spot (s : Nat) : M := .lst [.d (.int s)]
theorem row_at {row : List Int} {a : Nat} (h : a < row.length) : L2.atI (row.map D.int) (a : Int) = some (.int (row.getD a 0)) := at_nat (by omega) (by rw [show ((a : Int)).toNat = a by omega, List.getElem?_map, List.getElem?_eq_getElem h]; simp [List.getD_eq_getElem?_getD, List.getElem?_eq_getElem h])
theorem s_draw (k : Nat) (row : List Int) (a : Nat) (lim : Int) (hr : row ≠ []) (hl : 0 < lim) : run tb (k + 2) ("_law_draw", none) [Row row, .d (.int a), .d (.int lim)] = some (.d (.int (drawV row a lim)), []) := by
  rw [r__law_draw]
  have hpos : 0 < row.length := List.length_pos_iff.mpr hr
  have m0 := fun x => x_mod x lim hl
  unfold b__law_draw drawV
  by_cases h : a < row.length
  · have h1 : (a : Int) < row.length := by omega
    have h2 := row_at h
    simp [h, h2, m0]
  · have h1 : ¬ (a : Int) < row.length := by omega
    have m1 : binV .Mod (.int a) (.int row.length) = some (.d (.int ((a % row.length : Nat) : Int))) := by
      rw [x_mod _ _ (by omega)]; rfl
    have h2 := row_at (row := row) (a := a % row.length) (Nat.mod_lt _ hpos)
    have m2 := fun x : Int => x_mul x 40692 (mulR _ _ (by decide))
    have m3 := fun x : Int => x_mul x 7919 (mulR _ _ (by decide))
    have m4 := fun x : Int => x_mul x 48271 (mulR _ _ (by decide))
    have m5 := fun x : Int => x_mod x 2147483399 (by decide)
    have m6 := fun x : Int => x_mod x 2147483647 (by decide)
    simp only [Int.natCast_emod] at m1 h2
    simp [h, m1, h2, m2, m3, m4, m5, m6, m0]
theorem s_take (k : Nat) (row : List Int) (s : Nat) (lim : Int) (hr : row ≠ []) (hl : 0 < lim) : run tb (k + 3) ("_law_take", none) [Row row, Spot s, .d (.int lim)] = some (.d (.int (drawV row s lim)), [Spot (s + 1)]) := by
  rw [r__law_take]
  have h1 := s_draw k row s lim hr hl
  have g0 : L2.ixN 1 0 = some 0 := ix_nat (n := 1) (i := 0) (by omega) (by omega) (by rw [line_nat]; omega)
  unfold b__law_take
  simp [g0, h1]
theorem s_pick (k : Nat) (row : List Int) (s : Nat) (xs : List D) (x : D) (hr : row ≠ []) (hx : xs[(drawV row s xs.length).toNat]? = some x) (hl : 0 < xs.length) : run tb (k + 4) ("_law_pick", none) [Row row, Spot s, .d (.lst xs)] = some (.d x, [Spot (s + 1)]) := by
  rw [r__law_pick]
  have h1 := s_take k row s xs.length hr (by omega)
  obtain ⟨d1, d2⟩ := draw_in (row := row) (a := s) (lim := xs.length) (by omega)
  have h2 : L2.atI xs (drawV row s xs.length) = some x := at_nat d1 hx
  unfold b__law_pick
  simp [h1, h2]
theorem s_figure (k : Nat) (row : List Int) (s n : Nat) (hr : row ≠ []) (hn : n ≤ 1000) : ∃ os : List Int, os.Perm (upto n) ∧ run tb (k + 5) ("_law_figure", none) [Row row, Spot s, .d (.int n)] = some (.d (.tup (os.map .int)), [Spot (s + n)]) := by
  rw [r__law_figure]
  have hrng := rng (n : Int) (by omega) (by omega)
  have hc1 := comp_same (vs := [4]) (it := iRng [(cK (kVar 2))]) (g := .n 4) (t := tYes) (c := cK (kVar 4)) (xs := (upto n).map .int) [some (Row row), some (Spot s), some (.d (.int n)), none, none, none, none, none] (fun _ => true) (fun x => .d x) (by simp [hrng]) (by rw [List.length_map, upto_len, line_nat]; omega) (by simp) (by simp) (by
    intro x hx
    refine ⟨_, rfl, ?_, rfl, fun _ => ?_⟩
    · simp
    · simp)
  rw [List.filter_eq_self.mpr (fun _ _ => rfl)] at hc1
  obtain ⟨e', hl, made, left, m, o4, o6, hee, hp, hlen, rfl⟩ := for_all (g := .n 4) (b := l__law_figure_0 (run tb (k + 4)) (run tb (k + 3))) (fun i e => ∃ (made left : List Int) (m : M) (o4 o6 : Option M), e = [some (Row row), some (Spot (s + i)), some (.d (.int n)), some m, o4, some (.lst ((made.map D.int).map .d)), o6, none] ∧
      (made ++ left).Perm (upto n) ∧ left.length = n - i ∧ (m = .lst ((left.map D.int).map .d)))
    ((rangeI 0 n).map .int) 0 [some (Row row), some (Spot s), some (.d (.int n)), some (.lst (((upto n).map D.int).map .d)), none, some (.lst []), none, none] ⟨[], upto n, _, none, none, rfl, by simp, by rw [upto_len]; omega, rfl⟩ (by
    rintro i x e hx ⟨made, left, m, o4, o6, rfl, hp, hlen, rfl⟩
    obtain ⟨rfl, hi⟩ := rng0_get hx
    rw [Nat.zero_add] at hlen ⊢
    have hi : i < n := by omega
    have hl0 : 0 < left.length := by omega
    have hnd : (made ++ left).Nodup := hp.nodup_iff.mpr (upto_nodup n)
    obtain ⟨d1, d2⟩ := draw_in (row := row) (a := s + i) (lim := (left.length : Int)) (by omega)
    have hj : (drawV row (s + i) left.length).toNat < left.length := by omega
    have hpk := s_pick k row (s + i) (left.map D.int) (.int (left[(drawV row (s + i) left.length).toNat])) hr (by rw [List.length_map, List.getElem?_map, List.getElem?_eq_getElem hj]; rfl) (by rw [List.length_map]; exact hl0)
    generalize hv : left[(drawV row (s + i) left.length).toNat] = v at hpk
    have hvm : v ∈ left := by rw [← hv]; exact List.getElem_mem hj
    have hml : made.length ≤ n := by
      have := hp.length_eq
      rw [upto_len, List.length_append] at this; omega
    have hmg : made.length < line := by rw [line_nat]; omega
    have hc2 := comp_same (vs := [7]) (it := iV (cK (kVar 3))) (g := .n 7) (t := tB (cCmp .NotEq (cK (kVar 7)) (cK (kVar 6)))) (c := cK (kVar 7)) (xs := left.map .int)
      [some (Row row), some (Spot (s + i + 1)), some (.d (.int n)), some (.d (.lst (left.map .int))), some (.d (.int i)), some (.lst (((made ++ [v]).map D.int).map .d)), some (.d (.int v)), none] (fun x => match x with | .int p => !decide (p = v) | _ => false) (fun x => .d x) (by simp) (by rw [List.length_map, line_nat]; omega) (by simp) (by simp) (by
        intro x hx
        obtain ⟨p, hp, rfl⟩ := List.mem_map.mp hx
        refine ⟨_, rfl, ?_, ?_, fun _ => ?_⟩
        · simp
        · simp
        · simp)
    have hco : (List.filter (fun x => match x with | .int p => !decide (p = v) | _ => false) (left.map D.int)).map (fun x => M.d x) = ((left.filter fun p => !decide (p = v)).map D.int).map .d := by
      rw [List.filter_map]; rfl
    rw [hco] at hc2
    have p1 : (v :: left.filter (fun p => !decide (p = v))).Perm left := by
      have nl : left.Nodup := (List.nodup_append.mp hnd).2.1
      clear hpk hc2 hco hj hv hlen hl0 d1 d2 hp hnd
      induction left with
      | nil => simp at hvm
      | cons a r ih =>
        have na := List.nodup_cons.mp nl
        by_cases e : a = v
        · subst e
          have : r.filter (fun p => !decide (p = a)) = r := List.filter_eq_self.mpr fun y hy => by
            have : y ≠ a := fun z => na.1 (z ▸ hy)
            simp [this]
          simp [this]
        · have hv2 : v ∈ r := by
            rcases List.mem_cons.mp hvm with z | z
            · exact absurd z.symm e
            · exact z
          have := ih hv2 na.2
          simp only [List.filter_cons, e, decide_false, Bool.not_false, if_true]
          exact (List.Perm.swap _ _ _).trans (List.Perm.cons _ this)
    refine ⟨_, _, rfl, .inl ?_, made ++ [v], left.filter (fun p => !decide (p = v)), _, some (.d (.int i)), some (.d (.int v)), rfl, ?_, ?_, rfl⟩
    · unfold l__law_figure_0
      simp at hc2
      rw [← Nat.add_assoc]
      simp [hpk, hmg, hc2]
    · rw [List.append_assoc]
      exact (List.Perm.append_left made p1).trans hp
    · have := p1.length_eq
      simp only [List.length_cons] at this
      omega)
  subst hee
  rw [rngI_len] at hlen hl
  have l0 : left = [] := List.eq_nil_of_length_eq_zero (by omega)
  subst l0
  rw [List.append_nil] at hp
  refine ⟨made, hp, ?_⟩
  unfold b__law_figure
  simp at hl hc1
  simp [hc1, hrng, hl]
end Tw
set_option Elab.async false
set_option linter.all false
set_option maxRecDepth 100000
/-! The club that is drawn; the numbers of a script. -/
namespace Tw
open PySem Ev
theorem s_pickL (k : Nat) (row : List Int) (s : Nat) (xs : List D) (x : D) (hr : row ≠ []) (hx : xs[(drawV row s xs.length).toNat]? = some x) (hl : 0 < xs.length) : run tb (k + 4) ("_law_pick", none) [Row row, Spot s, .lst (xs.map .d)] = some (.d x, [Spot (s + 1)]) := by
  rw [r__law_pick]
  have h1 := s_take k row s xs.length hr (by omega)
  obtain ⟨d1, d2⟩ := draw_in (row := row) (a := s) (lim := xs.length) (by omega)
  have h2 : L2.atI (xs.map M.d) (drawV row s xs.length) = some (.d x) := at_nat d1 (by rw [List.getElem?_map, hx]; rfl)
  unfold b__law_pick
  simp [h1, h2]
theorem s_club (k : Nat) (row : List Int) (s : Nat) (hr : row ≠ []) : ∃ (cs : List Int) (s' : Nat), 2 ≤ cs.length ∧ cs.length ≤ 7 ∧ (∀ x ∈ cs, 1 ≤ x ∧ x ≤ 997) ∧ run tb (k + 5) ("_law_club", none) [Row row, Spot s, .d (.int 7)] = some (.d (.tup (cs.map .int)), [Spot s']) := by
  rw [r__law_club]
  obtain ⟨d1, d2⟩ := draw_in (row := row) (a := s) (lim := 4) (by omega)
  have hx : ∃ top : Int, (1 ≤ top ∧ top ≤ 997) ∧ [D.int 1, .int 5, .int 40, .int 997][(drawV row s 4).toNat]? = some (.int top) := by
    have : (drawV row s 4).toNat = 0 ∨ (drawV row s 4).toNat = 1 ∨ (drawV row s 4).toNat = 2 ∨ (drawV row s 4).toNat = 3 := by omega
    rcases this with e | e | e | e <;> rw [e]
    · exact ⟨1, by omega, rfl⟩
    · exact ⟨5, by omega, rfl⟩
    · exact ⟨40, by omega, rfl⟩
    · exact ⟨997, by omega, rfl⟩
  obtain ⟨top, ht, hx⟩ := hx
  have hp := s_pickL k row s [.int 1, .int 5, .int 40, .int 997] (.int top) hr hx (by simp)
  simp only [List.map_cons, List.map_nil] at hp
  have hm := s_take (k + 1) row (s + 1) 6 hr (by omega)
  obtain ⟨e1, e2⟩ := draw_in (row := row) (a := s + 1) (lim := 6) (by omega)
  have hr6 := rng (2 + drawV row (s + 1) 6) (by omega) (by omega)
  obtain ⟨ms, e', hc, cs, hms, hcs, hlen, hee⟩ := compL_inv (g := .n 4) (t := tYes) (c := cBin .Add (cP (pC (.int 1))) (cCall (run tb (k + 4) (("_law_take" : Str), none)) [1] [] [(aV (cK (kVar 0))), (aL 1), (aV (cK (kVar 3)))])) (vs := [4])
    (fun i ms e => ∃ cs : List Int, ms = (cs.map D.int).map M.d ∧ (∀ x ∈ cs, 1 ≤ x ∧ x ≤ 997) ∧ cs.length = i ∧ ∃ o, e = [some (Row row), some (Spot (s + 2 + i)), some (.d (.int 7)), some (.d (.int top)), o])
    ((rangeI 0 (2 + drawV row (s + 1) 6)).map .int) 0 [] [some (Row row), some (Spot (s + 2)), some (.d (.int 7)), some (.d (.int top)), none] ⟨[], rfl, by simp, rfl, none, rfl⟩ (by
    rintro i x ms e hx ⟨cs, rfl, hcs, hlen, o, rfl⟩
    obtain ⟨rfl, hi⟩ := rng0_get hx
    rw [Nat.zero_add] at hlen ⊢
    have h1 := s_take (k + 1) row (s + 2 + i) top hr (by omega)
    obtain ⟨f1, f2⟩ := draw_in (row := row) (a := s + 2 + i) (lim := top) (by omega)
    refine ⟨[some (Row row), some (Spot (s + 2 + i)), some (.d (.int 7)), some (.d (.int top)), some (.d (.int i))], _, .d (.int (1 + drawV row (s + 2 + i) top)), [some (Row row), some (Spot (s + 2 + i + 1)), some (.d (.int 7)), some (.d (.int top)), some (.d (.int i))], by simp, rfl, by simp [h1], cs ++ [1 + drawV row (s + 2 + i) top], by simp, ?_, by simp [hlen], some (.d (.int i)), rfl⟩
    intro y hy
    rcases List.mem_append.mp hy with z | z
    · exact hcs y z
    · cases List.mem_singleton.mp z; omega)
  obtain ⟨o, rfl⟩ := hee
  rw [rngI_len, Nat.zero_add] at hlen hc
  simp only [List.nil_append] at hms
  subst hms
  have hcomp : cComp [4] (iRng [(cBin .Add (cP (pC (.int 2))) (cCall (run tb (k + 4) (("_law_take" : Str), none)) [1] [] [(aV (cK (kVar 0))), (aL 1), (aV (cBin .Sub (cK (kVar 2)) (cP (pC (.int 1)))))]))]) (.n 4) tYes (cBin .Add (cP (pC (.int 1))) (cCall (run tb (k + 4) (("_law_take" : Str), none)) [1] [] [(aV (cK (kVar 0))), (aL 1), (aV (cK (kVar 3)))]))
      [some (Row row), some (Spot (s + 1)), some (.d (.int 7)), some (.d (.int top)), none] = some (.lst ((cs.map D.int).map M.d), [some (Row row), some (Spot (s + 2 + (2 + drawV row (s + 1) 6 - 0).toNat)), some (.d (.int 7)), some (.d (.int top)), none]) := by
    have hit : iRng [(cBin .Add (cP (pC (.int 2))) (cCall (run tb (k + 4) (("_law_take" : Str), none)) [1] [] [(aV (cK (kVar 0))), (aL 1), (aV (cBin .Sub (cK (kVar 2)) (cP (pC (.int 1)))))]))] [some (Row row), some (Spot (s + 1)), some (.d (.int 7)), some (.d (.int top)), none] = some ((rangeI 0 (2 + drawV row (s + 1) 6)).map .int, [some (Row row), some (Spot (s + 2)), some (.d (.int 7)), some (.d (.int top)), none]) := by
      simp [hm, hr6]
    unfold cComp
    simp only [hit]
    rw [if_pos ⟨by rw [rngI_len, line_nat]; omega, by simp, by simp⟩, hc]
    rfl
  refine ⟨cs, s + 2 + (2 + drawV row (s + 1) 6 - 0).toNat, by omega, by omega, hcs, ?_⟩
  unfold b__law_club
  have hln : 4 ≤ line := by rw [line_nat]; omega
  simp [hp, hln, hcomp]
theorem pow18 : binV .Pow (.int 10) (.int 18) = some (.d (.int 1000000000000000000)) := by
  have : PowOk 10 18 := ⟨by omega, by omega, by decide⟩
  simp [binV, binI, this]
theorem s_numbers (k : Nat) (ns : List Int) (hn : ns.length ≤ 63) : ∃ row : List Int, row ≠ [] ∧ run tb (k + 2) ("_law_numbers", none) [.d (.frl (ns.map .int))] = some (.lst ((row.map D.int).map .d), []) := by
  rw [r__law_numbers]
  have m1 := fun x : Int => x_mul x 48271 (mulR _ _ (by decide))
  have m2 := fun x : Int => x_mul x 69621 (mulR _ _ (by decide))
  have m3 := fun x : Int => x_mul x 16807 (mulR _ _ (by decide))
  have m4 := fun x : Int => x_mod x 2147483647 (by decide)
  have m5 := fun x : Int => x_mod x 2147483629 (by decide)
  have m6 := fun x : Int => x_mod x 997 (by decide)
  have m7 := fun x : Int => x_div x 997 (divOk (by omega) (by omega))
  have hr60 := rng 60 (by omega) (by omega)
  have hr4 := rng 4 (by omega) (by omega)
  have hsl : sliceV (.frl (ns.map D.int)) none (some 63) = some (.lst ((ns.map D.int).map .d)) := by
    show some (M.lst ((cut (ns.map D.int) none (some ((63 : Nat) : Int))).map .d)) = _
    rw [cut0, List.take_of_length_le (by rw [List.length_map]; exact hn)]
  obtain ⟨e', hl, row, o2, o3, o4, o5, hee, hlen⟩ := for_all (g := .n 2) (b := l__law_numbers_2 (run tb (k + 1)) (run tb k)) (fun i e => ∃ (row : List Int) (o2 o3 o4 o5 : Option M), e = [some (.d (.frl (ns.map .int))), some (.lst ((row.map D.int).map .d)), o2, o3, o4, o5] ∧ row.length ≤ 60 * i)
    (ns.map .int) 0 [some (.d (.frl (ns.map .int))), some (.lst []), none, none, none, none] ⟨[], none, none, none, none, rfl, by simp⟩ (by
    rintro i x e hx ⟨row, o2, o3, o4, o5, rfl, hlen⟩
    rw [Nat.zero_add] at hlen ⊢
    have hi : i < 63 := by
      have := lt_of_some hx
      rw [List.length_map] at this; omega
    rw [List.getElem?_map] at hx
    cases hv : ns[i]? with
    | none => rw [hv] at hx; cases hx
    | some v =>
      rw [hv] at hx
      cases hx
      by_cases hbig : 1000000000000000000 ≤ v
      · obtain ⟨r, hl, hq⟩ := for_some (g := .n 4) (b := l__law_numbers_0 (run tb (k + 1)) (run tb k)) (fun j e => ∃ (row2 : List Int) (lf : Int) (o4 : Option M), e = [some (.d (.frl (ns.map .int))), some (.lst ((row2.map D.int).map .d)), some (.d (.int v)), some (.d (.int lf)), o4, o5] ∧ row2.length ≤ 60 * i + j)
          (fun r => ∃ (row2 : List Int) (o3 o4 : Option M), r = .nx [some (.d (.frl (ns.map .int))), some (.lst ((row2.map D.int).map .d)), some (.d (.int v)), o3, o4, o5] ∧ row2.length ≤ 60 * i + 60)
          ((rangeI 0 60).map .int) 0 [some (.d (.frl (ns.map .int))), some (.lst ((row.map D.int).map .d)), some (.d (.int v)), some (.d (.int v)), o4, o5] ⟨row, v, o4, rfl, by omega⟩ (by
          rintro j x e hx ⟨row2, lf, o4, rfl, hl2⟩
          obtain ⟨rfl, hj⟩ := rng0_get hx
          rw [Nat.zero_add] at hl2 ⊢
          have hlt : row2.length < line := by rw [line_nat]; omega
          refine ⟨_, rfl, ?_⟩
          by_cases hz : lf = 0
          · exact .inr (.inl ⟨[some (.d (.frl (ns.map .int))), some (.lst ((row2.map D.int).map .d)), some (.d (.int v)), some (.d (.int 0)), some (.d (.int j)), o5], by unfold l__law_numbers_0; simp [hz], row2, some (.d (.int 0)), some (.d (.int j)), rfl, by omega⟩)
          · exact .inl ⟨[some (.d (.frl (ns.map .int))), some (.lst (((row2 ++ [lf % 997]).map D.int).map .d)), some (.d (.int v)), some (.d (.int (lf / 997))), some (.d (.int j)), o5], .inl (by unfold l__law_numbers_0; simp [hz, m6, m7, hlt]), row2 ++ [lf % 997], lf / 997, some (.d (.int j)), rfl, by simp; omega⟩) (by
          rintro e ⟨row2, lf, o4, rfl, hl2⟩
          rw [rngI_len] at hl2
          exact ⟨row2, some (.d (.int lf)), o4, rfl, by omega⟩)
        obtain ⟨row2, p3, p4, rfl, hl2⟩ := hq
        refine ⟨_, _, rfl, .inl ?_, row2, some (.d (.int v)), p3, p4, o5, rfl, by omega⟩
        unfold l__law_numbers_2
        simp at hl
        simp [pow18, hbig, hr60, hl]
      · obtain ⟨e2, hl, row2, p4, p5, hee2, hl2⟩ := for_all (g := .n 4) (b := l__law_numbers_1 (run tb (k + 1)) (run tb k)) (fun j e => ∃ (row2 : List Int) (p4 p5 : Option M), e = [some (.d (.frl (ns.map .int))), some (.lst ((row2.map D.int).map .d)), some (.d (.int v)), o3, p4, p5] ∧ row2.length ≤ 60 * i + j)
          ((rangeI 0 4).map .int) 0 [some (.d (.frl (ns.map .int))), some (.lst ((row.map D.int).map .d)), some (.d (.int v)), o3, o4, o5] ⟨row, o4, o5, rfl, by omega⟩ (by
          rintro j x e hx ⟨row2, p4, p5, rfl, hl2⟩
          obtain ⟨rfl, hj⟩ := rng0_get hx
          rw [Nat.zero_add] at hl2 ⊢
          have hlt : row2.length < line := by rw [line_nat]; omega
          exact ⟨_, [some (.d (.frl (ns.map .int))), some (.lst (((row2 ++ [((v * 48271 + j * 69621 + 11) % 2147483647 * 16807 + j) % 2147483629]).map D.int).map .d)), some (.d (.int v)), o3, some (.d (.int j)), some (.d (.int ((v * 48271 + j * 69621 + 11) % 2147483647)))], rfl, .inl (by unfold l__law_numbers_1; simp [m1, m2, m3, m4, m5, hlt]), row2 ++ [((v * 48271 + j * 69621 + 11) % 2147483647 * 16807 + j) % 2147483629], some (.d (.int j)), some (.d (.int ((v * 48271 + j * 69621 + 11) % 2147483647))), rfl, by simp; omega⟩)
        subst hee2
        rw [rngI_len] at hl2
        refine ⟨_, _, rfl, .inl ?_, row2, some (.d (.int v)), o3, p4, p5, rfl, by omega⟩
        unfold l__law_numbers_2
        simp at hl
        simp [pow18, hbig, hr4, hl])
  subst hee
  rw [List.length_map] at hlen
  have hz : (0 : Nat) < line := by rw [line_nat]; omega
  simp at hl
  by_cases h0 : row = []
  · subst h0
    refine ⟨[0], by simp, ?_⟩
    unfold b__law_numbers
    simp at hl hsl
    simp [hsl, hl, hz]
  · refine ⟨row, h0, ?_⟩
    unfold b__law_numbers
    simp at hl hsl
    simp [hsl, hl, h0]
end Tw
set_option Elab.async false
set_option linter.all false
set_option maxRecDepth 100000
/-! The mathematics: sums, who owes the most, clubs renamed, doubled, even. -/
namespace Tw
open PySem Ev
theorem perm_sum {xs ys : List Int} (h : xs.Perm ys) : xs.sum = ys.sum := by
  induction h with
  | nil => rfl
  | cons x _ ih => simp [ih]
  | swap x y l => simp only [List.sum_cons]; omega
  | trans _ _ h1 h2 => exact h1.trans h2
theorem sum_zero : ∀ {xs : List Int}, (∀ x ∈ xs, x = 0) → xs.sum = 0
  | [], _ => rfl
  | x :: r, h => by
    rw [List.sum_cons, h x List.mem_cons_self, sum_zero fun y hy => h y (List.mem_cons_of_mem _ hy)]; rfl
theorem sum_const {α : Type} (c : Int) : ∀ xs : List α, (xs.map fun _ => c).sum = c * xs.length
  | [] => by simp
  | x :: r => by
    simp only [List.map_cons, List.sum_cons, sum_const c r, List.length_cons]
    rw [show ((r.length + 1 : Nat) : Int) = (r.length : Int) + 1 by omega, Int.mul_add]
    omega
theorem sum_sub {α : Type} (f g : α → Int) : ∀ xs : List α, (xs.map fun x => f x - g x).sum = (xs.map f).sum - (xs.map g).sum
  | [] => by simp
  | x :: r => by simp only [List.map_cons, List.sum_cons, sum_sub f g r]; omega
theorem sum_mulR {α : Type} (f : α → Int) (c : Int) : ∀ xs : List α, (xs.map fun x => f x * c).sum = (xs.map f).sum * c
  | [] => by simp
  | x :: r => by simp only [List.map_cons, List.sum_cons, sum_mulR f c r, Int.add_mul]
theorem sum_ind {os : List Int} {n i : Nat} (h : os.Perm (upto n)) (hi : i ≤ n) (c : Int) : ((List.range n).map fun m : Nat => if (m : Int) ∈ os.take i then c else 0).sum = c * i := by
  have nd : os.Nodup := h.nodup_iff.mpr (upto_nodup n)
  have hl : os.length = n := by rw [h.length_eq, upto_len]
  have e1 : ((List.range n).map fun m : Nat => if (m : Int) ∈ os.take i then c else 0) = (upto n).map fun x => if x ∈ os.take i then c else 0 := by
    unfold upto rangeI
    rw [List.map_map]
    have : ((n : Int) - 0).toNat = n := by omega
    rw [this]
    apply List.map_congr_left
    intro m _
    simp
  rw [e1, ← perm_sum (h.map _), ← List.take_append_drop i (os.map _), List.sum_append_int, ← List.map_take, ← List.map_drop]
  have e2 : ((os.take i).map fun x => if x ∈ os.take i then c else 0) = (os.take i).map fun _ => c := List.map_congr_left fun x hx => if_pos hx
  have e3 : ((os.drop i).map fun x => if x ∈ os.take i then c else 0).sum = 0 := by
    refine sum_zero fun y hy => ?_
    obtain ⟨x, hx, rfl⟩ := List.mem_map.mp hy
    have nd2 := nd
    rw [← List.take_append_drop i os] at nd2
    have := (List.nodup_append.mp nd2).2.2
    rw [if_neg fun z => this x z x hx rfl]
  rw [e2, e3, sum_const, List.length_take, hl, Nat.min_eq_left hi]
  omega
theorem getD_sum (cs : List Int) : ((List.range cs.length).map fun m => cs.getD m 0) = cs := by
  apply List.ext_getElem?
  intro j
  by_cases hj : j < cs.length
  · rw [List.getElem?_map, List.getElem?_range hj, List.getElem?_eq_getElem hj]
    simp [List.getD_eq_getElem?_getD, List.getElem?_eq_getElem hj]
  · rw [List.getElem?_eq_none (by simp; omega), List.getElem?_eq_none (by omega)]
theorem owe_sum {cs os : List Int} (h : Clb cs os) {t : Nat} (ht : t < cs.length) : (owL cs os t).sum = 0 := by
  unfold owL
  have e : owe cs os t = fun m => cs.getD m 0 * ((t : Int) + 1) - (if (m : Int) ∈ os.take (t + 1) then cs.sum else 0) := rfl
  rw [e, sum_sub, sum_mulR, getD_sum, sum_ind h.ord (by omega)]
  rw [show ((t + 1 : Nat) : Int) = (t : Int) + 1 by omega]
  omega
theorem all_zero : ∀ {xs : List Int}, (∀ x ∈ xs, x ≤ 0) → xs.sum = 0 → ∀ x ∈ xs, x = 0
  | [], _, _ => by simp
  | y :: r, h, hs => by
    have hr : r.sum ≤ 0 := by
      have gen : ∀ l : List Int, (∀ x ∈ l, x ≤ 0) → l.sum ≤ 0 := by
        intro l
        induction l with
        | nil => intro _; simp
        | cons a l ih =>
          intro hl
          have a1 := hl a List.mem_cons_self
          have a2 := ih fun x hx => hl x (List.mem_cons_of_mem _ hx)
          rw [List.sum_cons]; omega
      exact gen r fun x hx => h x (List.mem_cons_of_mem _ hx)
    rw [List.sum_cons] at hs
    have hy := h y List.mem_cons_self
    intro x hx
    rcases List.mem_cons.mp hx with rfl | hx
    · omega
    · exact all_zero (fun x hx => h x (List.mem_cons_of_mem _ hx)) (by omega) x hx
/-- even: nobody is owed, that is, all are nought -/
theorem evn_zero {cs os : List Int} (h : Clb cs os) {t : Nat} (ht : t < cs.length) : evn cs os t = true ↔ ∀ x ∈ owL cs os t, x = 0 := by
  unfold evn
  rw [List.all_eq_true]
  constructor
  · intro ha
    exact all_zero (fun x hx => by simpa using ha x hx) (owe_sum h ht)
  · intro ha x hx
    rw [ha x hx]; rfl
theorem sum_pos_le : ∀ {xs : List Int}, (∀ x ∈ xs, 1 ≤ x) → ∀ x ∈ xs, x + (xs.length - 1 : Int) ≤ xs.sum
  | [], _ => by simp
  | y :: r, h => by
    have ge : ∀ l : List Int, (∀ x ∈ l, 1 ≤ x) → (l.length : Int) ≤ l.sum := by
      intro l
      induction l with
      | nil => intro _; simp
      | cons a l ih =>
        intro hl
        have a1 := hl a List.mem_cons_self
        have a2 := ih fun x hx => hl x (List.mem_cons_of_mem _ hx)
        rw [List.sum_cons, List.length_cons]; omega
    intro x hx
    rw [List.sum_cons, List.length_cons]
    have hr := ge r fun x hx => h x (List.mem_cons_of_mem _ hx)
    rcases List.mem_cons.mp hx with rfl | hx
    · omega
    · have := sum_pos_le (fun x hx => h x (List.mem_cons_of_mem _ hx)) x hx
      have := h y List.mem_cons_self
      omega
/-- the first to have a turn owes behind it -/
theorem owe_neg {cs os : List Int} (h : Clb cs os) : ∃ t < cs.length, ∃ m < cs.length, owe cs os t m < 0 := by
  have hlo := h.lo
  have hol := h.len
  have h0 : 0 < os.length := by omega
  obtain ⟨m1, m2⟩ := h.mem.mp (List.getElem_mem h0)
  obtain ⟨m, hm⟩ := Int.eq_ofNat_of_zero_le m1
  have hml : m < cs.length := by omega
  refine ⟨0, by omega, m, hml, ?_⟩
  unfold owe
  have : (m : Int) ∈ os.take (0 + 1) := by
    rw [List.take_add_one, List.getElem?_eq_getElem h0, hm]; simp
  rw [if_pos this]
  have hc : cs.getD m 0 ∈ cs := by
    rw [List.getD_eq_getElem?_getD, List.getElem?_eq_getElem hml]; exact List.getElem_mem hml
  have := sum_pos_le (fun x hx => (h.pay x hx).1) _ hc
  simp only [Int.natCast_zero, Int.zero_add, Int.mul_one] at *
  omega
/-- there is a greatest debt -/
theorem g1_ex {cs os : List Int} (h : Clb cs os) : ∃ P m t, G1 cs os P m t := by
  have hlo := h.lo
  obtain ⟨p, m, t, hb⟩ := bst_some (cs := cs) (os := os) (i := cs.length) (by omega)
  exact ⟨p, m, t, bst_G1 hb (owe_neg h)⟩
/-- the same owed in other places: the same greatest debt -/
theorem g1_same {cs os cs' os' : List Int} {P P' : Int} {m t m' t' : Nat} (hl : cs'.length = cs.length) (f g : Nat → Nat) (hf : ∀ j < cs.length, f j < cs.length) (hg : ∀ j < cs.length, g j < cs.length ∧ f (g j) = j)
    (he : ∀ s < cs.length, ∀ j < cs.length, owe cs' os' s j = owe cs os s (f j)) (a : G1 cs os P m t) (b : G1 cs' os' P' m' t') : P' = P := by
  have h1 := (a.all t' (by rw [← hl]; exact b.lt) (f m') (hf _ (by rw [← hl]; exact b.lm))).1
  rw [← he t' (by rw [← hl]; exact b.lt) m' (by rw [← hl]; exact b.lm), b.eq] at h1
  obtain ⟨g1, g2⟩ := hg m a.lm
  have h2 := (b.all t (by rw [hl]; exact a.lt) (g m) (by rw [hl]; exact g1)).1
  rw [he t a.lt (g m) g1, g2, a.eq] at h2
  omega
theorem dbl_sum : ∀ xs : List Int, (xs.map fun x => 2 * x).sum = 2 * xs.sum
  | [] => by simp
  | x :: r => by simp only [List.map_cons, List.sum_cons, dbl_sum r]; omega
theorem owe_dbl {cs os : List Int} {t m : Nat} (hm : m < cs.length) : owe (cs.map fun x => 2 * x) os t m = 2 * owe cs os t m := by
  unfold owe
  rw [dbl_sum]
  have : (cs.map fun x => 2 * x).getD m 0 = 2 * cs.getD m 0 := by
    simp [List.getD_eq_getElem?_getD, List.getElem?_map, List.getElem?_eq_getElem hm]
  rw [this, Int.mul_assoc]
  split <;> omega
theorem g1_dbl {cs os : List Int} {P : Int} {m t : Nat} (a : G1 cs os P m t) : G1 (cs.map fun x => 2 * x) os (2 * P) m t := by
  refine ⟨by have := a.pos; omega, by rw [List.length_map]; exact a.lm, by rw [List.length_map]; exact a.lt, ?_, fun s hs j hj => ?_⟩
  · rw [owe_dbl a.lm, a.eq]; omega
  · rw [List.length_map] at hs hj
    rw [owe_dbl hj]
    obtain ⟨h1, h2⟩ := a.all s hs j hj
    exact ⟨by omega, fun hc hz => h2 hc (by omega)⟩
end Tw
set_option Elab.async false
set_option linter.all false
set_option maxRecDepth 100000
/-! Clubs renamed; even clubs; the least of all. -/
namespace Tw
open PySem Ev
def reN (cs names : List Int) : List Int := names.map fun j => cs.getD j.toNat 0
def reO (os names : List Int) : List Int := os.map fun x => (names.idxOf x : Int)
theorem upto_map (cs : List Int) : (upto cs.length).map (fun j => cs.getD j.toNat 0) = cs := by
  have := getD_sum cs
  unfold upto rangeI
  rw [List.map_map, show ((cs.length : Int) - 0).toNat = cs.length by omega]
  refine Eq.trans (List.map_congr_left fun m _ => ?_) this
  simp
theorem reN_perm {cs names : List Int} (h : names.Perm (upto cs.length)) : (reN cs names).Perm cs := by
  have := h.map fun j => cs.getD j.toNat 0
  rw [upto_map] at this
  exact this
theorem reN_len {cs names : List Int} (h : names.Perm (upto cs.length)) : (reN cs names).length = cs.length := (reN_perm h).length_eq
theorem idx_get {names : List Int} (nd : names.Nodup) {j : Nat} (hj : j < names.length) : names.idxOf names[j] = j := by
  have hm : names.idxOf names[j] < names.length := List.idxOf_lt_length_iff.mpr (List.getElem_mem hj)
  have e := List.getElem_idxOf hm
  by_cases z : names.idxOf names[j] = j
  · exact z
  · exfalso
    rcases Nat.lt_or_gt_of_ne z with z | z
    · exact List.pairwise_iff_getElem.mp nd _ _ hm hj z e
    · exact List.pairwise_iff_getElem.mp nd _ _ hj hm z e.symm
theorem reO_perm {os names : List Int} {n : Nat} (h : os.Perm (upto n)) (h2 : names.Perm (upto n)) : (reO os names).Perm (upto n) := by
  have nd : names.Nodup := h2.nodup_iff.mpr (upto_nodup n)
  have hl : names.length = n := by rw [h2.length_eq, upto_len]
  have p := (h.trans h2.symm).map fun x => (names.idxOf x : Int)
  have e : (names.map fun x => (names.idxOf x : Int)) = upto n := by
    apply List.ext_getElem?
    intro j
    by_cases hj : j < n
    · rw [List.getElem?_map, List.getElem?_eq_getElem (by omega)]
      unfold upto rangeI
      rw [List.getElem?_map, show ((n : Int) - 0).toNat = n by omega, List.getElem?_range hj]
      simp [idx_get nd (show j < names.length by omega)]
    · rw [List.getElem?_eq_none (by simp; omega), List.getElem?_eq_none (by rw [upto_len]; omega)]
  rw [e] at p
  exact p
theorem re_clb {cs os names : List Int} (h : Clb cs os) (h2 : names.Perm (upto cs.length)) : Clb (reN cs names) (reO os names) := by
  have hl := reN_len h2
  refine ⟨by rw [hl]; exact h.lo, by rw [hl]; exact h.hi, fun x hx => h.pay x ((reN_perm h2).subset hx), ?_⟩
  rw [hl]
  exact reO_perm h.ord h2
theorem re_owe {cs os names : List Int} (h : Clb cs os) (h2 : names.Perm (upto cs.length)) {s j : Nat} (hj : j < cs.length) : owe (reN cs names) (reO os names) s j = owe cs os s (names.getD j 0).toNat := by
  have nd : names.Nodup := h2.nodup_iff.mpr (upto_nodup _)
  have hl : names.length = cs.length := by rw [h2.length_eq, upto_len]
  have hjn : j < names.length := by omega
  have hg : names.getD j 0 = names[j] := by rw [List.getD_eq_getElem?_getD, List.getElem?_eq_getElem hjn]; rfl
  have hm := upto_mem.mp (h2.mem_iff.mp (List.getElem_mem hjn))
  unfold owe
  rw [perm_sum (reN_perm h2)]
  have e1 : (reN cs names).getD j 0 = cs.getD (names.getD j 0).toNat 0 := by
    unfold reN
    rw [List.getD_eq_getElem?_getD, List.getElem?_map, List.getElem?_eq_getElem hjn, hg]; rfl
  have e2 : (j : Int) ∈ (reO os names).take (s + 1) ↔ (((names.getD j 0).toNat : Nat) : Int) ∈ os.take (s + 1) := by
    unfold reO
    rw [← List.map_take, List.mem_map, hg]
    have e3 : ((names[j].toNat : Nat) : Int) = names[j] := by omega
    rw [e3]
    constructor
    · rintro ⟨x, hx, hxj⟩
      have hxo := List.mem_of_mem_take hx
      have hxn : x ∈ names := h2.symm.mem_iff.mp (h.ord.mem_iff.mp hxo)
      have hi : names.idxOf x = j := by omega
      have : names[j] = x := by
        subst hi
        exact List.getElem_idxOf (List.idxOf_lt_length_iff.mpr hxn)
      rw [this]; exact hx
    · intro hx
      exact ⟨names[j], hx, by rw [idx_get nd hjn]⟩
  rw [e1]
  simp only [e2]
theorem re_g1 {cs os names : List Int} (h : Clb cs os) (h2 : names.Perm (upto cs.length)) {P P' : Int} {m t m' t' : Nat} (a : G1 cs os P m t) (b : G1 (reN cs names) (reO os names) P' m' t') : P' = P := by
  have nd : names.Nodup := h2.nodup_iff.mpr (upto_nodup _)
  have hl : names.length = cs.length := by rw [h2.length_eq, upto_len]
  refine g1_same (reN_len h2) (fun j => (names.getD j 0).toNat) (fun x => names.idxOf (x : Int)) (fun j hj => ?_) (fun x hx => ?_) (fun s hs j hj => re_owe h h2 hj) a b
  · have hjn : j < names.length := by omega
    have hm := upto_mem.mp (h2.mem_iff.mp (List.getElem_mem hjn))
    show (names.getD j 0).toNat < _
    rw [List.getD_eq_getElem?_getD, List.getElem?_eq_getElem hjn]
    simp only [Option.getD_some]
    omega
  · have hxn : (x : Int) ∈ names := h2.symm.mem_iff.mp (upto_mem.mpr ⟨by omega, by omega⟩)
    have hi := List.idxOf_lt_length_iff.mpr hxn
    refine ⟨by omega, ?_⟩
    show (names.getD (names.idxOf (x : Int)) 0).toNat = x
    rw [List.getD_eq_getElem?_getD, List.getElem?_eq_getElem hi, List.getElem_idxOf hi]
    simp
theorem mem_owL {cs os : List Int} {t : Nat} {x : Int} : x ∈ owL cs os t ↔ ∃ m < cs.length, owe cs os t m = x := by
  unfold owL
  simp [List.mem_map]
theorem re_evn {cs os names : List Int} (h : Clb cs os) (h2 : names.Perm (upto cs.length)) {t : Nat} (ht : t < cs.length) : evn (reN cs names) (reO os names) t = evn cs os t := by
  have hl := reN_len h2
  have hln : names.length = cs.length := by rw [h2.length_eq, upto_len]
  have e : evn (reN cs names) (reO os names) t = true ↔ evn cs os t = true := by
    rw [evn_zero (re_clb h h2) (by rw [hl]; exact ht), evn_zero h ht]
    constructor
    · intro ha x hx
      obtain ⟨m, hm, rfl⟩ := mem_owL.mp hx
      have hmn : (m : Int) ∈ names := h2.symm.mem_iff.mp (upto_mem.mpr ⟨by omega, by omega⟩)
      have hi := List.idxOf_lt_length_iff.mpr hmn
      have := re_owe (s := t) h h2 (j := names.idxOf (m : Int)) (by omega)
      rw [List.getD_eq_getElem?_getD, List.getElem?_eq_getElem hi, List.getElem_idxOf hi] at this
      simp only [Option.getD_some, Int.toNat_natCast] at this
      rw [← this]
      exact ha _ (mem_owL.mpr ⟨_, by rw [hl]; omega, rfl⟩)
    · intro ha x hx
      obtain ⟨j, hj, rfl⟩ := mem_owL.mp hx
      rw [hl] at hj
      rw [re_owe h h2 hj]
      have hjn : j < names.length := by omega
      have hm := upto_mem.mp (h2.mem_iff.mp (List.getElem_mem hjn))
      refine ha _ (mem_owL.mpr ⟨_, ?_, rfl⟩)
      rw [List.getD_eq_getElem?_getD, List.getElem?_eq_getElem hjn]
      simp only [Option.getD_some]
      omega
  cases h1 : evn (reN cs names) (reO os names) t <;> cases h3 : evn cs os t <;> simp_all
theorem re_evnL {cs os names : List Int} (h : Clb cs os) (h2 : names.Perm (upto cs.length)) : evnL (reN cs names) (reO os names) = evnL cs os := by
  unfold evnL
  rw [reN_len h2]
  refine List.filter_congr fun t ht => re_evn h h2 (List.mem_range.mp ht)
theorem dbl_evnL {cs os : List Int} : evnL (cs.map fun x => 2 * x) os = evnL cs os := by
  unfold evnL
  rw [List.length_map]
  refine List.filter_congr fun t ht => ?_
  unfold evn owL
  rw [List.length_map, List.all_map, List.all_map]
  rw [Bool.eq_iff_iff, List.all_eq_true, List.all_eq_true]
  constructor
  · intro ha m hm
    have := ha m hm
    simp only [Function.comp, owe_dbl (List.mem_range.mp hm), decide_eq_true_eq] at this ⊢
    omega
  · intro ha m hm
    have := ha m hm
    simp only [Function.comp, owe_dbl (List.mem_range.mp hm), decide_eq_true_eq] at this ⊢
    omega
end Tw
set_option Elab.async false
set_option linter.all false
set_option maxRecDepth 100000
/-! Even clubs; the least of all. -/
namespace Tw
open PySem Ev
def evenC (c : Int) (n : Nat) : List Int := List.replicate n c
theorem even_clb {cs os : List Int} (h : Clb cs os) {c : Int} (hc : 1 ≤ c ∧ c ≤ 1000) : Clb (evenC c cs.length) os := by
  refine ⟨by simp [evenC, h.lo], by simp [evenC, h.hi], fun x hx => ?_, by simpa [evenC] using h.ord⟩
  rw [List.eq_of_mem_replicate hx]; exact hc
theorem even_owe {os : List Int} {c : Int} {n t m : Nat} (hm : m < n) : owe (evenC c n) os t m = c * (t + 1) - (if (m : Int) ∈ os.take (t + 1) then n * c else 0) := by
  unfold owe evenC
  rw [List.sum_replicate_int, List.getD_eq_getElem?_getD, List.getElem?_replicate, if_pos hm]
  rfl
theorem even_g1 {cs os : List Int} (h : Clb cs os) {c : Int} (hc : 1 ≤ c ∧ c ≤ 1000) {m0 : Nat} (h0 : os[0]? = some (m0 : Int)) : G1 (evenC c cs.length) os (c * (cs.length - 1)) m0 0 := by
  have hlo := h.lo
  have hm0 : m0 < cs.length := by
    have := h.mem.mp (List.mem_of_getElem? h0); omega
  have hlen : (evenC c cs.length).length = cs.length := by simp [evenC]
  have en : (cs.length : Int) * c = c * (cs.length - 1) + c := by rw [Int.mul_sub, Int.mul_comm]; omega
  have pos : 0 < c * ((cs.length : Int) - 1) := Int.mul_pos (by omega) (by omega)
  have e1 : os.take (0 + 1) = [(m0 : Int)] := by rw [List.take_add_one, h0]; rfl
  refine ⟨pos, by rw [hlen]; exact hm0, by rw [hlen]; omega, ?_, fun s hs j hj => ?_⟩
  · rw [even_owe hm0, e1, if_pos (by simp), en]
    simp only [Int.natCast_zero, Int.zero_add, Int.mul_one]
    omega
  · rw [hlen] at hs hj
    rw [even_owe hj]
    have g1 : c * ((s : Int) + 1) = c * s + c := by rw [Int.mul_add, Int.mul_one]
    have g2 : 0 ≤ c * (s : Int) := Int.mul_nonneg (by omega) (by omega)
    rw [en]
    refine ⟨by rw [g1]; split <;> omega, fun hcase hz => ?_⟩
    rw [g1] at hz
    by_cases hs0 : s = 0
    · subst hs0
      rw [e1] at hz
      by_cases hj0 : (j : Int) ∈ [(m0 : Int)]
      · have : (j : Int) = (m0 : Int) := by simpa using hj0
        omega
      · rw [if_neg hj0] at hz
        simp only [Int.natCast_zero, Int.mul_zero] at hz
        omega
    · have g3 : c ≤ c * (s : Int) := by
        have g4 : 0 ≤ c * ((s : Int) - 1) := Int.mul_nonneg (by omega) (by omega)
        rw [Int.mul_sub, Int.mul_one] at g4
        omega
      split at hz <;> omega
theorem even_evnL {cs os : List Int} (h : Clb cs os) {c : Int} (hc : 1 ≤ c ∧ c ≤ 1000) : evnL (evenC c cs.length) os = [cs.length - 1] := by
  have hlo := h.lo
  have hol := h.len
  have hlen : (evenC c cs.length).length = cs.length := by simp [evenC]
  have E := even_clb h hc
  unfold evnL
  rw [hlen]
  obtain ⟨n, hn⟩ : ∃ n, cs.length = n + 1 := ⟨cs.length - 1, by omega⟩
  have last : evn (evenC c cs.length) os n = true := by
    rw [evn_zero E (by rw [hlen]; omega)]
    intro x hx
    obtain ⟨m, hm, rfl⟩ := mem_owL.mp hx
    rw [hlen] at hm
    rw [even_owe hm, List.take_of_length_le (by omega), if_pos (h.mem.mpr ⟨by omega, by omega⟩), hn, Int.mul_comm]
    rw [show ((n + 1 : Nat) : Int) = (n : Int) + 1 by omega]
    omega
  have other : ∀ t < n, evn (evenC c cs.length) os t = false := by
    intro t ht
    rw [← Bool.not_eq_true, evn_zero E (by rw [hlen]; omega)]
    intro ha
    have hto : t + 1 < os.length := by omega
    obtain ⟨m1, m2⟩ := h.mem.mp (List.getElem_mem hto)
    obtain ⟨m, hm⟩ := Int.eq_ofNat_of_zero_le m1
    have hml : m < cs.length := by omega
    have := ha _ (mem_owL.mpr ⟨m, by rw [hlen]; exact hml, rfl⟩)
    rw [even_owe hml, if_neg (not_mem_take h.nd (by rw [List.getElem?_eq_getElem hto, hm]))] at this
    have : 0 < c * ((t : Int) + 1) := Int.mul_pos (by omega) (by omega)
    omega
  rw [hn, List.range_succ, List.filter_append, ← hn]
  have e1 : List.filter (evn (evenC c cs.length) os) (List.range n) = [] := List.filter_eq_nil_iff.mpr fun t ht => by
    rw [other t (List.mem_range.mp ht)]; simp
  rw [hn] at last
  rw [e1, hn]
  simp [last]
/-! ### the least of all -/
def key (cs os : List Int) (t m : Nat) : List Int := [owe cs os t m, m, t]
theorem key_lt {a b c d e f : Int} : ([a, b, c] : List Int) < [d, e, f] ↔ a < d ∨ (a = d ∧ (b < e ∨ (b = e ∧ c < f))) := by
  simp [List.cons_lt_cons_iff]
/-- b is the least of those that were seen -/
structure Lst (cs os : List Int) (seen : Nat → Nat → Prop) (b : D) : Prop where
  no : b = .non → ∀ t m, ¬ seen t m
  is_ : b ≠ .non → ∃ t m, seen t m ∧ b = .tup ((key cs os t m).map .int) ∧ ∀ t' m', seen t' m' → ¬ key cs os t' m' < key cs os t m
theorem lst_step {cs os : List Int} {seen : Nat → Nat → Prop} {b : D} (h : Lst cs os seen b) (t m : Nat) : ∃ b', (b = .non → b' = .tup ((key cs os t m).map .int)) ∧
    (∀ ks : List Int, b = .tup (ks.map .int) → b' = if key cs os t m < ks then .tup ((key cs os t m).map .int) else b) ∧ Lst cs os (fun t' m' => seen t' m' ∨ (t' = t ∧ m' = m)) b' := by
  by_cases hb : b = .non
  · refine ⟨.tup ((key cs os t m).map .int), fun _ => rfl, fun ks e => (by rw [hb] at e; cases e), ⟨fun e => (nomatch e), fun _ => ⟨t, m, .inr ⟨rfl, rfl⟩, rfl, fun t' m' hs => ?_⟩⟩⟩
    rcases hs with hs | ⟨rfl, rfl⟩
    · exact absurd hs (h.no hb t' m')
    · unfold key; rw [key_lt]; omega
  · obtain ⟨t0, m0, h1, h2, h3⟩ := h.is_ hb
    by_cases hl : key cs os t m < key cs os t0 m0
    · refine ⟨.tup ((key cs os t m).map .int), fun e => absurd e hb, fun ks e => ?_, ⟨fun e => (nomatch e), fun _ => ⟨t, m, .inr ⟨rfl, rfl⟩, rfl, fun t' m' hs => ?_⟩⟩⟩
      · have : ks = key cs os t0 m0 := by
          rw [h2] at e
          have e2 : (key cs os t0 m0).map D.int = ks.map D.int := D.tup.inj e
          exact ((List.map_inj_right (f := D.int) (fun a b z => D.int.inj z)).mp e2).symm
        rw [this, if_pos hl]
      · rcases hs with hs | ⟨rfl, rfl⟩
        · have := h3 t' m' hs
          unfold key at *
          rw [key_lt] at *
          omega
        · unfold key; rw [key_lt]; omega
    · refine ⟨b, fun e => absurd e hb, fun ks e => ?_, ⟨fun e => absurd e hb, fun _ => ⟨t0, m0, .inl h1, h2, fun t' m' hs => ?_⟩⟩⟩
      · have : ks = key cs os t0 m0 := by
          rw [h2] at e
          have e2 : (key cs os t0 m0).map D.int = ks.map D.int := D.tup.inj e
          exact ((List.map_inj_right (f := D.int) (fun a b z => D.int.inj z)).mp e2).symm
        rw [this, if_neg hl]
      · rcases hs with hs | ⟨rfl, rfl⟩
        · exact h3 t' m' hs
        · exact hl
theorem lst_g1 {cs os : List Int} (h : Clb cs os) {b : D} (hb : Lst cs os (fun t m => t < cs.length ∧ m < cs.length) b) : ∃ P m t, G1 cs os P m t ∧ b = .tup [.int (-P), .int m, .int t] := by
  have hlo := h.lo
  have nb : b ≠ .non := fun e => hb.no e 0 0 ⟨by omega, by omega⟩
  obtain ⟨t, m, ⟨ht, hm⟩, h2, h3⟩ := hb.is_ nb
  obtain ⟨t1, ht1, m1, hm1, hneg⟩ := owe_neg h
  refine ⟨- owe cs os t m, m, t, ⟨?_, hm, ht, by omega, fun s hs j hj => ?_⟩, ?_⟩
  · have := h3 t1 m1 ⟨ht1, hm1⟩
    unfold key at this
    rw [key_lt] at this
    omega
  · have := h3 s j ⟨hs, hj⟩
    unfold key at this
    rw [key_lt] at this
    exact ⟨by omega, fun hc hz => by omega⟩
  · rw [h2]
    unfold key
    simp
end Tw
set_option Elab.async false
set_option linter.all false
set_option maxRecDepth 100000
/-! The two inner loops of the law. -/
namespace Tw
open PySem Ev
abbrev Tu (xs : List Int) : Option M := some (.d (.tup (xs.map .int)))
abbrev In (x : Int) : Option M := some (.d (.int x))
/-- the shelf of the law while the first turns are walked -/
abbrev lawE (o0 : Option M) (row : List Int) (s : Nat) (cs os : List Int) (b : D) (fs : List M) (rest : List (Option M)) : Ev.Env :=
  o0 :: some (Row row) :: some (Spot s) :: Tu cs :: In cs.length :: Tu os :: some (.d b) :: some (.lst fs) :: rest
theorem law_in1 (r r1 : Pl → Fn) (o0 : Option M) (row : List Int) (s : Nat) (cs os : List Int) (fs : List M) (t : Nat) (hlen : cs.length ≤ 1000) (o10 o11 o12 o13 o14 : Option M) (b : D) (hb : Lst cs os (fun t' m' => t' < t ∧ m' < cs.length) b) :
    ∃ b' p12 p13, Lst cs os (fun t' m' => t' < t + 1 ∧ m' < cs.length) b' ∧ forL (.n 12) (l_law_1 r r1) ((rangeI 0 cs.length).map .int) (lawE o0 row s cs os b fs [In t, Tu (owL cs os t), o10, o11, o12, o13, o14, none, none, none, none, none, none])
      = some (.nx (lawE o0 row s cs os b' fs [In t, Tu (owL cs os t), o10, o11, p12, p13, o14, none, none, none, none, none, none])) := by
  have hln : 3 ≤ line := by rw [line_nat]; omega
  obtain ⟨e', hl, b', p12, p13, hee, hb'⟩ := for_all (g := .n 12) (b := l_law_1 r r1) (fun i e => ∃ b' p12 p13, e = lawE o0 row s cs os b' fs [In t, Tu (owL cs os t), o10, o11, p12, p13, o14, none, none, none, none, none, none] ∧ Lst cs os (fun t' m' => (t' < t ∧ m' < cs.length) ∨ (t' = t ∧ m' < i)) b')
    ((rangeI 0 cs.length).map .int) 0 (lawE o0 row s cs os b fs [In t, Tu (owL cs os t), o10, o11, o12, o13, o14, none, none, none, none, none, none]) ⟨b, o12, o13, rfl, by
      have e : (fun t' m' => (t' < t ∧ m' < cs.length) ∨ (t' = t ∧ m' < 0)) = fun t' m' => t' < t ∧ m' < cs.length := by
        funext t' m'; simp
      rw [e]; exact hb⟩ (by
    rintro i x e hx ⟨b1, p12, p13, rfl, hb1⟩
    obtain ⟨rfl, hi⟩ := rng0_get hx
    have hti : i < cs.length := by omega
    rw [Nat.zero_add] at hb1 ⊢
    obtain ⟨b2, q1, q2, q3⟩ := lst_step hb1 t i
    have g : L2.atI ((owL cs os t).map D.int) (i : Int) = some (.int (owe cs os t i)) := at_nat (by omega) (by rw [show ((i : Int)).toNat = i by omega, List.getElem?_map, owL_get hti]; rfl)
    have e3 : (fun t' m' => ((t' < t ∧ m' < cs.length) ∨ (t' = t ∧ m' < i)) ∨ (t' = t ∧ m' = i)) = fun t' m' => (t' < t ∧ m' < cs.length) ∨ (t' = t ∧ m' < i + 1) := by
      funext t' m'; apply propext; omega
    rw [e3] at q3
    refine ⟨lawE o0 row s cs os b1 fs [In t, Tu (owL cs os t), o10, o11, In i, p13, o14, none, none, none, none, none, none], lawE o0 row s cs os b2 fs [In t, Tu (owL cs os t), o10, o11, In i, Tu (key cs os t i), o14, none, none, none, none, none, none], rfl, .inl ?_, b2, In i, Tu (key cs os t i), rfl, q3⟩
    unfold l_law_1
    by_cases hn : b1 = .non
    · have e2 := q1 hn
      subst hn
      subst e2
      simp [g, key, hln]
    · obtain ⟨t0, m0, h1, h2, h3⟩ := hb1.is_ hn
      have e2 := q2 _ h2
      have c := lt_ti (key cs os t i) (key cs os t0 m0) (alike_i _ _)
      subst h2
      by_cases hlt : key cs os t i < key cs os t0 m0
      · rw [if_pos hlt] at e2
        subst e2
        rw [decide_eq_true hlt] at c
        simp only [key, List.map_cons, List.map_nil] at c
        simp [g, key, hln, c]
      · rw [if_neg hlt] at e2
        subst e2
        rw [decide_eq_false hlt] at c
        simp only [key, List.map_cons, List.map_nil] at c
        simp [g, key, hln, c])
  refine ⟨b', p12, p13, ?_, by rw [hl, hee]⟩
  rw [rngI_len] at hb'
  have e : (fun t' m' => (t' < t ∧ m' < cs.length) ∨ (t' = t ∧ m' < 0 + ((cs.length : Int) - 0).toNat)) = fun t' m' => t' < t + 1 ∧ m' < cs.length := by
    funext t' m'; apply propext; omega
  rw [e] at hb'
  exact hb'
theorem law_in0 (r r1 : Pl → Fn) (o0 : Option M) (row : List Int) (s : Nat) (cs os : List Int) (fs : List M) (t : Nat) (h : Clb cs os) (ht : t < cs.length) (o10 o11 o12 o13 o14 : Option M) (b : D) :
    ∃ x12 p14, forL (.n 12) (l_law_0 r r1) ((rangeI 0 cs.length).map .int) (lawE o0 row s cs os b fs [In t, Tu (owL cs os t), o10, o11, o12, o13, o14, none, none, none, none, none, none])
      = some (.nx (lawE o0 row s cs os b fs [In t, Tu (owL cs os t), o10, o11, In x12, o13, p14, none, none, none, none, none, none])) := by
  have hlo0 := h.lo
  obtain ⟨e', hl, p12, p14, hee, h12⟩ := for_all (g := .n 12) (b := l_law_0 r r1) (fun i e => ∃ p12 p14, e = lawE o0 row s cs os b fs [In t, Tu (owL cs os t), o10, o11, p12, o13, p14, none, none, none, none, none, none] ∧ (0 < i → ∃ x, p12 = In x))
    ((rangeI 0 cs.length).map .int) 0 (lawE o0 row s cs os b fs [In t, Tu (owL cs os t), o10, o11, o12, o13, o14, none, none, none, none, none, none]) ⟨o12, o14, rfl, fun z => absurd z (by omega)⟩ (by
    rintro i x e hx ⟨p12, p14, rfl, -⟩
    obtain ⟨rfl, hi⟩ := rng0_get hx
    have hti : i < cs.length := by omega
    have g : L2.atI ((owL cs os t).map D.int) (i : Int) = some (.int (owe cs os t i)) := at_nat (by omega) (by rw [show ((i : Int)).toNat = i by omega, List.getElem?_map, owL_get hti]; rfl)
    obtain ⟨p, hp⟩ : ∃ p, cs.getD i 0 = p := ⟨_, rfl⟩
    have ho : owe cs os t i = p * ((t : Int) + 1) - (if (i : Int) ∈ os.take (t + 1) then cs.sum else 0) := by unfold owe; rw [hp]
    have g2 : L2.atI (cs.map D.int) (i : Int) = some (.int p) := at_nat (by omega) (by rw [show ((i : Int)).toNat = i by omega, List.getElem?_map, ← hp, List.getD_eq_getElem?_getD, List.getElem?_eq_getElem hti]; rfl)
    have hmo : (i : Int) ∈ os := h.mem.mpr ⟨by omega, by omega⟩
    have gi := idx_i (i : Int) os hmo
    have hm : binV .Mult (.int p) (.int ((t : Int) + 1)) = some (.d (.int (p * ((t : Int) + 1)))) := x_mul _ _ (mulL _ _ (by
      have : cs.getD i 0 ∈ cs := by rw [List.getD_eq_getElem?_getD, List.getElem?_eq_getElem hti]; exact List.getElem_mem hti
      have := h.pay _ this; rw [hp] at this; omega))
    have hlo := List.idxOf_lt_length_iff.mpr hmo
    have mt : (i : Int) ∈ os.take (t + 1) ↔ os.idxOf (i : Int) ≤ t := by
      rw [List.mem_take_iff_getElem]
      constructor
      · rintro ⟨j, hj, e⟩
        have := List.getElem_idxOf hlo
        by_cases z : os.idxOf (i : Int) = j
        · omega
        · exfalso
          rcases Nat.lt_or_gt_of_ne z with z | z
          · exact List.pairwise_iff_getElem.mp h.nd _ _ hlo (by omega) z (by rw [this, e])
          · exact List.pairwise_iff_getElem.mp h.nd _ _ (by omega) hlo z (by rw [this, e])
      · intro hle
        exact ⟨os.idxOf (i : Int), by omega, List.getElem_idxOf hlo⟩
    refine ⟨lawE o0 row s cs os b fs [In t, Tu (owL cs os t), o10, o11, In i, o13, p14, none, none, none, none, none, none], lawE o0 row s cs os b fs [In t, Tu (owL cs os t), o10, o11, In i, o13, some (.d (.bl (decide ((i : Int) ∈ os.take (t + 1))))), none, none, none, none, none, none], rfl, .inl ?_, _, _, rfl, fun _ => ⟨_, rfl⟩⟩
    unfold l_law_0
    rw [ho] at g
    by_cases hc : os.idxOf (i : Int) ≤ t
    · have hc2 : ((os.idxOf (i : Int) : Nat) : Int) ≤ (t : Int) := by omega
      rw [if_pos (mt.mpr hc)] at g
      simp [g, g2, gi, hm, hc2, mt, hc]
    · have hc2 : ¬ ((os.idxOf (i : Int) : Nat) : Int) ≤ (t : Int) := by omega
      rw [if_neg (fun z => hc (mt.mp z))] at g
      simp [g, g2, gi, hm, hc2, mt, hc])
  rw [rngI_len] at h12
  obtain ⟨x, rfl⟩ := h12 (by omega)
  exact ⟨x, p14, by rw [hl, hee]⟩
end Tw
set_option Elab.async false
set_option linter.all false
set_option maxRecDepth 100000
/-! The outer loop of the law. -/
namespace Tw
open PySem Ev
abbrev fsL (cs os : List Int) (i : Nat) : List M := ((List.range i).filter (evn cs os)).map fun t : Nat => M.d (.int t)
theorem not_owed {cs os : List Int} (h : Clb cs os) {t : Nat} (ht : t < cs.length) : ((((owL cs os t).map D.int).filter fun x => match x with | .int v => !decide (v = 0) | _ => false).length = 0) ↔ evn cs os t = true := by
  rw [evn_zero h ht, List.length_eq_zero_iff, List.filter_eq_nil_iff]
  constructor
  · intro ha x hx
    have := ha _ (List.mem_map.mpr ⟨x, hx, rfl⟩)
    simpa using this
  · intro ha x hx
    obtain ⟨v, hv, rfl⟩ := List.mem_map.mp hx
    simp [ha v hv]
theorem law_body (k : Nat) (o0 : Option M) (row : List Int) (s : Nat) (cs os : List Int) (t : Nat) (h : Clb cs os) (ht : t < cs.length) (o9 o10 o12 o13 o14 : Option M) (b : D) (hb : Lst cs os (fun t' m' => t' < t ∧ m' < cs.length) b) :
    ∃ b' p9 p10 x12 p13 p14, Lst cs os (fun t' m' => t' < t + 1 ∧ m' < cs.length) b' ∧ l_law_2 (run tb (k + 10)) (run tb (k + 9)) (lawE o0 row s cs os b (fsL cs os t) [In t, o9, o10, none, o12, o13, o14, none, none, none, none, none, none])
      = some (.nx (lawE o0 row s cs os b' (fsL cs os (t + 1)) [In t, p9, p10, none, In x12, p13, p14, none, none, none, none, none, none])) := by
  have hhi := h.hi
  have h1 := s_owed_now (k + 1) cs os t h ht
  have h2 := s_stands (k + 3) cs os t h ⟨by omega, by omega⟩
  rw [show ((t : Int)).toNat = t by omega] at h2
  have hr := rng (cs.length : Int) (by omega) (by omega)
  have hsum := owe_sum h ht
  obtain ⟨b', p12, p13, l1, l2⟩ := law_in1 (run tb (k + 10)) (run tb (k + 9)) o0 row s cs os (fsL cs os (t + 1)) t (by omega) (Tu (hasL cs os t (t + 1))) none o12 o13 o14 b hb
  obtain ⟨x12, p14, l3⟩ := law_in0 (run tb (k + 10)) (run tb (k + 9)) o0 row s cs os (fsL cs os (t + 1)) t h ht (Tu (hasL cs os t (t + 1))) none p12 p13 o14 b'
  refine ⟨b', Tu (owL cs os t), Tu (hasL cs os t (t + 1)), x12, p13, p14, l1, ?_⟩
  have c1 := comp_same (vs := [11]) (it := iV (cK (kVar 10))) (g := .n 11) (t := tYes) (c := cNeg (cK (kVar 11)))
    (xs := (hasL cs os t (t + 1)).map .int) (lawE o0 row s cs os b (fsL cs os t) [In t, Tu (owL cs os t), Tu (hasL cs os t (t + 1)), none, o12, o13, o14, none, none, none, none, none, none]) (fun _ => true) (fun x => match x with | .int p => .d (.int (-p)) | _ => .d .non) (by simp) (by rw [List.length_map, hasL_len, line_nat]; omega) (by simp) (by simp) (by
      intro x hx
      obtain ⟨p, hp, rfl⟩ := List.mem_map.mp hx
      refine ⟨_, rfl, ?_, rfl, fun _ => ?_⟩
      · simp
      · simp)
  have hco : ((List.filter (fun _ => true) ((hasL cs os t (t + 1)).map D.int)).map (fun x => match x with | .int p => M.d (.int (-p)) | _ => .d .non)) = ((owL cs os t).map D.int).map M.d := by
    rw [← owL_has, List.filter_eq_self.mpr (fun _ _ => rfl), List.map_map, List.map_map, List.map_map]; rfl
  rw [hco] at c1
  have c2 := comp_same (vs := [11]) (it := iV (cK (kVar 9))) (g := .n 11) (t := tB (cCmp .NotEq (cK (kVar 11)) (cP (pC (.int 0))))) (c := cK (kVar 11))
    (xs := (owL cs os t).map .int) (lawE o0 row s cs os b (fsL cs os t) [In t, Tu (owL cs os t), Tu (hasL cs os t (t + 1)), none, o12, o13, o14, none, none, none, none, none, none]) (fun x => match x with | .int v => !decide (v = 0) | _ => false) M.d (by simp) (by rw [List.length_map, owL_len, line_nat]; omega) (by simp) (by simp) (by
      intro x hx
      obtain ⟨p, hp, rfl⟩ := List.mem_map.mp hx
      refine ⟨_, rfl, ?_, ?_, fun _ => ?_⟩
      · simp
      · simp
      · simp)
  have hno := not_owed h ht
  have hll : ((owL cs os t).map D.int |>.filter fun x => match x with | .int v => !decide (v = 0) | _ => false).length ≤ line := by
    have := List.length_filter_le (fun x => match x with | D.int v => !decide (v = 0) | _ => false) ((owL cs os t).map D.int)
    rw [List.length_map, owL_len] at this
    rw [line_nat]; omega
  generalize hL : (((owL cs os t).map D.int).filter fun x => match x with | .int v => !decide (v = 0) | _ => false) = L at hno c2 hll
  have hl2 : (owL cs os t).length ≤ line := by rw [owL_len, line_nat]; omega
  have ee := eqD_ti (owL cs os t) (owL cs os t)
  rw [decide_eq_true rfl] at ee
  have hf1 : fsL cs os (t + 1) = if evn cs os t = true then fsL cs os t ++ [M.d (.int t)] else fsL cs os t := by
    unfold fsL
    rw [List.range_succ, List.filter_append, List.map_append]
    cases hb : evn cs os t <;> simp [List.filter_cons, hb]
  have g : (fsL cs os t).length < line := by
    have := List.length_filter_le (evn cs os) (List.range t)
    rw [List.length_range] at this
    unfold fsL
    rw [List.length_map, line_nat]; omega
  have hlen : lenD (.lst L) = some (.d (.int L.length)) := by simp [lenD, hll]
  unfold l_law_2
  by_cases hb : evn cs os t = true
  · have h0 := hno.mpr hb
    rw [if_pos hb] at hf1
    simp only [hf1] at l2 l3 ⊢
    generalize fsL cs os t = F at *
    simp [h1, h2, c1, c2, hsum, ee, h0, hr, l2, l3, hl2, hll, g, hlen]
  · have h0 : ¬ L.length = 0 := fun z => hb (hno.mp z)
    rw [if_neg hb] at hf1
    simp only [hf1] at l2 l3 ⊢
    generalize fsL cs os t = F at *
    simp [h1, h2, c1, c2, hsum, ee, h0, hr, l2, l3, hl2, hll, g, hlen]
end Tw
set_option Elab.async false
set_option linter.all false
set_option maxRecDepth 100000
/-! The outer loop of the law, and what its tail needs. -/
namespace Tw
open PySem Ev
theorem law_loop (k : Nat) (o0 : Option M) (row : List Int) (s : Nat) (cs os : List Int) (h : Clb cs os) :
    ∃ b o8 o9 o10 x12 o13 o14, Lst cs os (fun t' m' => t' < cs.length ∧ m' < cs.length) b ∧ forL (.n 8) (l_law_2 (run tb (k + 10)) (run tb (k + 9))) ((rangeI 0 cs.length).map .int) (lawE o0 row s cs os .non [] [none, none, none, none, none, none, none, none, none, none, none, none, none])
      = some (.nx (lawE o0 row s cs os b (fsL cs os cs.length) [o8, o9, o10, none, In x12, o13, o14, none, none, none, none, none, none])) := by
  have hlo := h.lo
  obtain ⟨e', hl, b, o8, o9, o10, o12, o13, o14, hee, -, h12, hb⟩ := for_all (g := .n 8) (b := l_law_2 (run tb (k + 10)) (run tb (k + 9)))
    (fun i e => ∃ b o8 o9 o10 o12 o13 o14, e = lawE o0 row s cs os b (fsL cs os i) [o8, o9, o10, none, o12, o13, o14, none, none, none, none, none, none] ∧ (o12 = none ∨ ∃ x, o12 = In x) ∧ (0 < i → ∃ x, o12 = In x) ∧ Lst cs os (fun t' m' => t' < i ∧ m' < cs.length) b)
    ((rangeI 0 cs.length).map .int) 0 (lawE o0 row s cs os .non [] [none, none, none, none, none, none, none, none, none, none, none, none, none])
    ⟨.non, none, none, none, none, none, none, rfl, .inl rfl, fun z => absurd z (by omega), ⟨fun _ t m hs => by omega, fun z => absurd rfl z⟩⟩ (by
    rintro i x e hx ⟨b, o8, o9, o10, o12, o13, o14, rfl, h12, -, hb⟩
    obtain ⟨rfl, hi⟩ := rng0_get hx
    have hti : i < cs.length := by omega
    rw [Nat.zero_add] at hb ⊢
    obtain ⟨b', p9, p10, x12, p13, p14, q1, q2⟩ := law_body k o0 row s cs os i h hti o9 o10 o12 o13 o14 b hb
    exact ⟨_, _, rfl, .inl q2, b', In i, p9, p10, In x12, p13, p14, rfl, .inr ⟨_, rfl⟩, fun _ => ⟨_, rfl⟩, q1⟩)
  rw [rngI_len, Nat.zero_add, show ((cs.length : Int) - 0).toNat = cs.length by omega] at hee h12 hb
  obtain ⟨x, rfl⟩ := h12 (by omega)
  exact ⟨b, o8, o9, o10, x, o13, o14, hb, by rw [hl, hee]⟩
end Tw
set_option Elab.async false
set_option linter.all false
set_option maxRecDepth 100000
/-! The law holds. -/
namespace Tw
open PySem Ev
abbrev ti (xs : List Int) : M := .d (.tup (xs.map .int))
abbrev evI (cs os : List Int) : List Int := (evnL cs os).map fun t : Nat => (t : Int)
theorem fair_i (k : Nat) (cs os : List Int) (h : Clb cs os) : run tb (k + 10) ("fair_end", none) [ti cs, ti os] = some (ti (evI cs os), []) := by
  rw [s_fair_end k cs os h]
  unfold evI ti
  rw [List.map_map]; rfl
theorem fs_i (cs os : List Int) : fsL cs os cs.length = ((evI cs os).map D.int).map M.d := by
  unfold fsL evI evnL
  rw [List.map_map, List.map_map]; rfl
theorem debt_i (k : Nat) (cs os : List Int) (h : Clb cs os) (P : Int) (m t : Nat) (g : G1 cs os P m t) : run tb (k + 10) ("greatest_debt", none) [ti cs, ti os] = some (ti [P, m, t], []) := s_greatest_debt k cs os h P m t g
theorem mx_i (cs : List Int) (h : 2 ≤ cs.length) : ∃ mx, maxD (.tup (cs.map .int)) = some (.d (.int mx)) ∧ ∀ x ∈ cs, x ≤ mx := by
  cases cs with
  | nil => simp at h
  | cons a r =>
    have ge : ∀ (r : List Int) (a : Int), a ≤ r.foldl max a ∧ ∀ x ∈ r, x ≤ r.foldl max a := by
      intro r
      induction r with
      | nil => intro a; simp
      | cons b r ih =>
        intro a
        obtain ⟨h1, h2⟩ := ih (max a b)
        refine ⟨by rw [List.foldl_cons]; omega, fun x hx => ?_⟩
        rw [List.foldl_cons]
        rcases List.mem_cons.mp hx with rfl | hx
        · omega
        · exact h2 x hx
    refine ⟨_, (max_i a r).1, fun x hx => ?_⟩
    rcases List.mem_cons.mp hx with rfl | hx
    · exact (ge r x).1
    · exact (ge r a).2 x hx
theorem dbl_clb {cs os : List Int} (h : Clb cs os) (hm : ∀ x ∈ cs, x ≤ 500) : Clb (cs.map fun x => 2 * x) os := by
  refine ⟨by rw [List.length_map]; exact h.lo, by rw [List.length_map]; exact h.hi, fun x hx => ?_, by rw [List.length_map]; exact h.ord⟩
  obtain ⟨y, hy, rfl⟩ := List.mem_map.mp hx
  have := hm y hy
  have := h.pay y hy
  omega
theorem dbl_ev (cs os : List Int) : evI (cs.map fun x => 2 * x) os = evI cs os := by unfold evI; rw [dbl_evnL]
theorem even_ev {cs os : List Int} (h : Clb cs os) {c : Int} (hc : 1 ≤ c ∧ c ≤ 1000) : evI (evenC c cs.length) os = [(cs.length : Int) - 1] := by
  have := h.lo
  unfold evI
  rw [even_evnL h hc]
  simp
  omega
theorem mulT (c : Int) (n : Nat) (h : 2 ≤ n ∧ n ≤ 1000) : binV .Mult (.tup [.int c]) (.int n) = some (.d (.tup ((evenC c n).map .int))) := by
  have e : (List.replicate n [D.int c]).flatten = (evenC c n).map .int := by
    unfold evenC
    rw [List.map_replicate]
    clear h
    induction n with
    | zero => rfl
    | succ n ih => rw [List.replicate_succ, List.replicate_succ, List.flatten_cons, ih]; rfl
  show (if [D.int c] ≠ [] ∧ 2 ≤ (n : Int) ∧ (n : Int) ≤ 1000 ∧ [D.int c].length ≤ 1000 then some (M.d (.tup (List.replicate (n : Int).toNat [D.int c]).flatten)) else none) = _
  rw [if_pos ⟨by simp, by omega, by omega, by simp⟩, show ((n : Int)).toNat = n by omega, e]
end Tw
set_option Elab.async false
set_option linter.all false
set_option maxRecDepth 100000
/-! The law holds: its walk. -/
namespace Tw
open PySem Ev
theorem law_k (k : Nat) (ns : List Int) (hns : ns.length ≤ 63) : run tb (k + 11) ("law", none) [.d (.frl (ns.map .int))] = some (.d (.bl true), []) := by
  rw [r_law]
  obtain ⟨row, hrow, a1⟩ := s_numbers (k + 8) ns hns
  obtain ⟨cs, s1, hlo, hhi, hpay, a2⟩ := s_club (k + 5) row 0 hrow
  obtain ⟨os, hos, a3⟩ := s_figure (k + 5) row s1 cs.length hrow (by omega)
  obtain ⟨s2, hs2⟩ : ∃ s2, s1 + cs.length = s2 := ⟨_, rfl⟩
  rw [hs2] at a3
  rw [show Spot 0 = M.lst [.d (.int 0)] from rfl] at a2
  have h : Clb cs os := ⟨hlo, hhi, fun x hx => by have := hpay x hx; omega, hos⟩
  obtain ⟨b, o8, o9, o10, x12, o13, o14, hb, a4⟩ := law_loop k (some (.d (.frl (ns.map .int)))) row s2 cs os h
  obtain ⟨P, m, t, g, rfl⟩ := lst_g1 h hb
  rw [fs_i] at a4
  have a5 := fair_i k cs os h
  have a6 := debt_i k cs os h P m t g
  obtain ⟨names, hnm, a7⟩ := s_figure (k + 5) row s2 cs.length hrow (by omega)
  obtain ⟨s3, hs3⟩ : ∃ s3, s2 + cs.length = s3 := ⟨_, rfl⟩
  rw [hs3] at a7
  have h2 := re_clb h hnm
  obtain ⟨P', m', t', g2⟩ := g1_ex h2
  have hP := re_g1 h hnm g g2
  subst hP
  have a8 := fair_i k _ _ h2
  have a9 := debt_i k _ _ h2 P' m' t' g2
  rw [show evI (reN cs names) (reO os names) = evI cs os by unfold evI; rw [re_evnL h hnm]] at a8
  have hr := rng (cs.length : Int) (by omega) (by omega)
  have hl2 : cs.length ≤ line := by rw [line_nat]; omega
  have hnl : names.length = cs.length := by rw [hnm.length_eq, upto_len]
  have hmem : ∀ x, x ∈ names ↔ 0 ≤ x ∧ x < cs.length := fun x => by rw [hnm.mem_iff, upto_mem]
  have c1 := comp_same (vs := [17]) (it := iV (cK (kVar 15))) (g := .n 17) (t := tYes) (c := cK (kIdx (kVar 3) (pOf (kVar 17))))
    (xs := names.map .int) (lawE (some (.d (.frl (ns.map .int)))) row s3 cs os (.tup [.int (-P'), .int m, .int t]) (((evI cs os).map D.int).map M.d) [o8, o9, o10, none, In x12, o13, o14, Tu names, none, none, none, none, none]) (fun _ => true) (fun x => match x with | .int p => .d (.int (cs.getD p.toNat 0)) | _ => .d .non) (by simp) (by rw [List.length_map, line_nat]; omega) (by simp) (by simp) (by
      intro x hx
      obtain ⟨p, hp, rfl⟩ := List.mem_map.mp hx
      obtain ⟨p1, p2⟩ := (hmem p).mp hp
      have hg : L2.atI (cs.map D.int) p = some (.int (cs.getD p.toNat 0)) := at_nat p1 (by rw [List.getElem?_map, List.getD_eq_getElem?_getD, List.getElem?_eq_getElem (by omega)]; rfl)
      obtain ⟨q, hq⟩ : ∃ q, cs.getD p.toNat 0 = q := ⟨_, rfl⟩
      refine ⟨_, rfl, ?_, rfl, fun _ => ?_⟩
      · simp
      · show _ = some (M.d (.int (cs.getD p.toNat 0)), _)
        rw [hq] at hg ⊢
        simp [hg])
  have e1 : ((List.filter (fun _ => true) (names.map D.int)).map (fun x => match x with | .int p => M.d (.int (cs.getD p.toNat 0)) | _ => .d .non)) = ((reN cs names).map D.int).map M.d := by
    unfold reN
    rw [List.filter_eq_self.mpr (fun _ _ => rfl), List.map_map, List.map_map, List.map_map]; rfl
  rw [e1] at c1
  have c2 := comp_same (vs := [12]) (it := iV (cK (kVar 5))) (g := .n 12) (t := tYes) (c := mK "index" (kVar 15) [(pOf (kVar 12))])
    (xs := os.map .int) (lawE (some (.d (.frl (ns.map .int)))) row s3 cs os (.tup [.int (-P'), .int m, .int t]) (((evI cs os).map D.int).map M.d) [o8, o9, o10, none, In x12, o13, o14, Tu names, Tu (reN cs names), none, none, none, none]) (fun _ => true) (fun x => match x with | .int p => .d (.int (names.idxOf p)) | _ => .d .non) (by simp) (by rw [List.length_map, line_nat, h.len]; omega) (by simp) (by simp) (by
      intro x hx
      obtain ⟨p, hp, rfl⟩ := List.mem_map.mp hx
      have hg := idx_i p names ((hmem p).mpr (h.mem.mp hp))
      refine ⟨_, rfl, ?_, rfl, fun _ => ?_⟩
      · simp
      · simp [hg])
  have e2 : ((List.filter (fun _ => true) (os.map D.int)).map (fun x => match x with | .int p => M.d (.int (names.idxOf p)) | _ => .d .non)) = ((reO os names).map D.int).map M.d := by
    unfold reO
    rw [List.filter_eq_self.mpr (fun _ _ => rfl), List.map_map, List.map_map, List.map_map]; rfl
  rw [e2] at c2
  obtain ⟨mx, m1, m2⟩ := mx_i cs hlo
  have eF := eqD_ti (evI cs os) (evI cs os)
  rw [decide_eq_true rfl] at eF
  have eG := fun P : Int => eqD_ti [P, m, t] [P, m, t]
  simp only [decide_eq_true_eq, decide_true, List.map_cons, List.map_nil] at eG
  obtain ⟨m0, hm0⟩ : ∃ m0 : Nat, os[0]? = some (m0 : Int) := by
    have hl := h.len
    obtain ⟨z, hz⟩ := Int.eq_ofNat_of_zero_le (h.mem.mp (List.getElem_mem (show 0 < os.length by omega))).1
    exact ⟨z, by rw [List.getElem?_eq_getElem (by omega), hz]⟩
  obtain ⟨c0, hc0⟩ : ∃ c0 : Int, cs[0]? = some c0 := ⟨cs[0], List.getElem?_eq_getElem (by omega)⟩
  have hc : 1 ≤ c0 ∧ c0 ≤ 1000 := h.pay c0 (List.mem_of_getElem? hc0)
  have b1 := mulT c0 cs.length ⟨by omega, by omega⟩
  have h4 := even_clb h hc
  have b2 := fair_i k _ _ h4
  rw [even_ev h hc] at b2
  have b3 := debt_i k _ _ h4 _ _ _ (even_g1 h hc hm0)
  have b4 : binV .Mult (.int c0) (.int ((cs.length : Int) - 1)) = some (.d (.int (c0 * ((cs.length : Int) - 1)))) := x_mul _ _ (mulL _ _ (by omega))
  have g0 : L2.atI (cs.map D.int) 0 = some (.int c0) := at_nat (by omega) (by rw [List.getElem?_map]; show Option.map _ cs[0]? = _; rw [hc0]; rfl)
  have g1 : L2.atI (os.map D.int) 0 = some (.int m0) := at_nat (by omega) (by rw [List.getElem?_map]; show Option.map _ os[0]? = _; rw [hm0]; rfl)
  have k0 : L2.atI [D.int (-P'), D.int m, D.int t] 0 = some (.int (-P')) := at_nat (by omega) rfl
  have k1 : L2.atI [D.int (-P'), D.int m, D.int t] 1 = some (.int m) := at_nat (by omega) rfl
  have k2 : L2.atI [D.int (-P'), D.int m, D.int t] 2 = some (.int t) := at_nat (by omega) rfl
  have j0 : L2.atI [D.int P', D.int m', D.int t'] 0 = some (.int P') := at_nat (by omega) rfl
  have eH := eqD_ti [(cs.length : Int) - 1] [(cs.length : Int) - 1]
  simp only [decide_eq_true_eq, decide_true, List.map_cons, List.map_nil] at eH
  have eI := eqD_ti [c0 * ((cs.length : Int) - 1), m0, 0] [c0 * ((cs.length : Int) - 1), m0, 0]
  simp only [decide_eq_true_eq, decide_true, List.map_cons, List.map_nil] at eI
  have d1 := fun h3 : Clb (cs.map fun x => 2 * x) os => fair_i k _ _ h3
  simp only [dbl_ev] at d1
  generalize evI cs os = EV at *
  have hn1 : 1 ≤ line := by rw [line_nat]; omega
  have hn3 : 3 ≤ line := by rw [line_nat]; omega
  unfold b_law
  by_cases hmx : mx ≤ 500
  · have h3 := dbl_clb h fun x hx => by have := m2 x hx; omega
    have d1 := d1 h3
    have d2 := debt_i k _ _ h3 _ _ _ (g1_dbl g)
    have d3 : binV .Mult (.int (-2)) (.int (-P')) = some (.d (.int (2 * P'))) := by
      rw [x_mul _ _ (mulL _ _ (by decide)), show (-2 : Int) * -P' = 2 * P' by omega]
    have c3 := comp_same (vs := [11]) (it := iV (cK (kVar 3))) (g := .n 11) (t := tYes) (c := cBin .Mult (cP (pC (.int 2))) (cK (kVar 11)))
      (xs := cs.map .int) (lawE (some (.d (.frl (ns.map .int)))) row s3 cs os (.tup [.int (-P'), .int m, .int t]) ((EV.map D.int).map M.d) [o8, o9, o10, none, In x12, o13, o14, Tu names, Tu (reN cs names), none, Tu (reO os names), none, none]) (fun _ => true) (fun x => match x with | .int p => .d (.int (2 * p)) | _ => .d .non) (by simp) (by rw [List.length_map, line_nat]; omega) (by simp) (by simp) (by
        intro x hx
        obtain ⟨p, hp, rfl⟩ := List.mem_map.mp hx
        have hg : binV .Mult (.int 2) (.int p) = some (.d (.int (2 * p))) := x_mul _ _ (mulL _ _ (by decide))
        refine ⟨_, rfl, ?_, rfl, fun _ => ?_⟩
        · simp
        · simp [hg])
    have e3 : ((List.filter (fun _ => true) (cs.map D.int)).map (fun x => match x with | .int p => M.d (.int (2 * p)) | _ => .d .non)) = ((cs.map fun x => 2 * x).map D.int).map M.d := by
      rw [List.filter_eq_self.mpr (fun _ _ => rfl), List.map_map, List.map_map, List.map_map]; rfl
    rw [e3] at c3
    generalize (cs.map fun x => 2 * x) = ds at *
    generalize reN cs names = rn at *
    generalize reO os names = ro at *
    generalize evenC c0 cs.length = ec at *
    simp only [ti, lawE, List.map_cons, List.map_nil] at *
    simp [-List.map_map, hn1, hn3, a1, a2, a3, a4, a5, a6, a7, a8, a9, c1, c2, c3, m1, hmx, eF, eG, eH, eI, b1, b2, b3, b4, g0, g1, k0, k1, k2, j0, d1, d2, d3, hr, hl2]
  · generalize reN cs names = rn at *
    generalize reO os names = ro at *
    generalize evenC c0 cs.length = ec at *
    simp only [ti, lawE, List.map_cons, List.map_nil] at *
    simp [-List.map_map, hn1, hn3, a1, a2, a3, a4, a5, a6, a7, a8, a9, c1, c2, m1, hmx, eF, eG, eH, eI, b1, b2, b3, b4, g0, g1, k0, k1, k2, j0, hr, hl2]
end Tw
namespace Tw
open PySem Ev
theorem law_true : ∀ ns : List Int, ns.length ≤ 63 → run tb 20 (("law" : Str), none) [.d (.frl (ns.map .int))] = some (.d (.bl true), []) := fun ns h => law_k 9 ns h
end Tw
set_option Elab.async false
set_option linter.all false
set_option maxRecDepth 100000
set_option maxHeartbeats 0
namespace Tw
open PySem PySem.Spec PyProof.Rows Ev L2
abbrev R : PySem.W.OpenRow := PySem.W.OpenLaw.row PySem.Challenge.rw_turnwright_k59_clubs_ended_at_each_round
def fa : List He.Fa := tb.fa
def fn : List He.DefD := tb.fn
abbrev hk : PySem.W.Hook := He.hookD 6 fa fn
def ob (s : PySem.W.SharedT) : He.AlD := He.obsDG 6 fa fn (HandSHeadRun.getT s)
theorem ob_eq (s : PySem.W.SharedT) : ob s = hk.obs s.abs := He.obsDG_eq (HandSHeadRun.getT_eq s)
def lo0 : List Str := ["TurnError", "BadValue", "is_integer", "is_within", "is_sequence", "is_order", "need", "need_integer", "need_sequence", "need_integers", "need_unlike", "FEWEST_MEMBERS", "MOST_MEMBERS", "MOST_PAY", "check_club", "check_order", "check_number", "meet_order", "meet_number", "stands", "owed_behind", "sheet_of", "DebtSheet", "are_owed", "is_greatest", "owed_now", "fair_end", "greatest_debt", "_law_numbers", "_law_draw"]
def lo1 : List Str := ["_law_take", "_law_pick", "_law_figure", "_law_club"]
def loose : List Str := lo0 ++ lo1
theorem run_top (w : World) : HandSHeadRun.RunEq R (PySem.W.view R.prog [42]) hk ob 2000 loose w := by
  intro os
  kernel_rfl
end Tw
set_option Elab.async false
set_option linter.all false
set_option maxRecDepth 100000
set_option maxHeartbeats 0
namespace Tw
open PySem PySem.Spec PyProof.Rows Ev L2
theorem facts {P : Program} {w : World} {K : PySem.W.Frag} {h : Heap} {mg : Str → Option Value} {f : Addr} (X : K.In h) (N : h.Ns mainGlobals mg) (hf : mg ("law" : Str) = some (.ref f)) (c : He.SaysD fa fn K) :
    ∃ fd : FuncData, (∀ (s : Shared) (v : Value), BindsTo s fd ⟨[v], []⟩ [("script", v)]) ∧ ∀ base : Heap, K.In base → base.Ns mainGlobals mg → FnOk P w K mg base CX0 20 f fd ["script"] (Ev.spLaw K 63) := by
  have g : Good tb K mg := good_of X N c
  obtain ⟨fd, F⟩ := g.def_ d_law (find_of find_law).1
  have e := hf.symm.trans (g.glo d_law (find_of find_law).1 rfl)
  cases e
  have F2 : FunD K "law" "law" (defArgs d_law.st) (defBody d_law.st) (defScope d_law.st) [] [] (He.fAd K ("law", none)) fd := F
  have b := FunD.bindsA (ps := ["script"]) F2 fun _ _ _ _ _ _ us hl => match us, hl with | [_], _ => rfl
  exact ⟨fd, fun s v => b s [v] rfl, fun base _ _ => law_ok tb_ok g find_law rfl rfl F law_true⟩
end Tw
open PySem PySem.W PySem.Calls PyProof.Rows
theorem PySem.Challenge.cw_turnwright_k59_clubs_ended_at_each_round_holds : PySem.Challenge.rw_turnwright_k59_clubs_ended_at_each_round.Holds := by
  w_on; o_law
  refine HandSHeadRun.head_any (r := OpenLaw.row PySem.Challenge.rw_turnwright_k59_clubs_ended_at_each_round) (q := view (OpenLaw.row PySem.Challenge.rw_turnwright_k59_clubs_ended_at_each_round).prog [42]) (H := Tw.hk) (ob := Tw.ob) (M := 2000) (loose := Tw.loose) (d := HandSHeadRun.topDef (OpenLaw.row PySem.Challenge.rw_turnwright_k59_clubs_ended_at_each_round).prog 42) (kwd := []) Tw.ob_eq
    (by kernel_rfl) (fun s => by kernel_rfl) Tw.run_top (by kernel_rfl) (by kernel_rfl) (by kernel_rfl) (by rfl) (by first | assumption | decide +kernel) (by decide +kernel) ⟨rfl, rfl, rfl, rfl, rfl, by decide +kernel⟩ ?hw ?hc
  case hw => w_witness2
  case hc =>
    refine L2.walk_ofE (l := PySem.Challenge.rw_turnwright_k59_clubs_ended_at_each_round) (n := 63) (k := 20) (x := "script") (CX := L2.CX0) rfl (by decide) (by kernel_rfl) ⟨rfl, by decide, by decide⟩ ?F (fun _ _ _ _ z => z)
    intro w mg fa h Y N hmg0
    obtain ⟨K, KX, c⟩ := Y
    have hmg : mg ("law" : PySem.Str) = some (.ref fa) := by
      have e : (HandSHeadRun.topDef (OpenLaw.row PySem.Challenge.rw_turnwright_k59_clubs_ended_at_each_round).prog 42).name = ("law" : PySem.Str) := by kernel_rfl
      rw [← e]
      exact hmg0
    obtain ⟨fd, hb, hF⟩ := Tw.facts (P := (PySem.Challenge.rw_turnwright_k59_clubs_ended_at_each_round).prog) (w := w) KX N hmg c
    exact ⟨K, fd, Ev.spLaw K 63, KX, hb, fun H a ns hl _ hS => ⟨a, ns, rfl, hS, hl, fun _ => rfl⟩, hF⟩
