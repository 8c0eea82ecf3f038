import PyProof.Rows.All
import Wide.All
import OpenK.AllK
import Wide.FinOn
import HandS.ForMost
import HandS.Wide
import HandS.Flow
import HandS.Zip
import HandS.Conv
import HandS.Walk
import HandS.IsInst
import HandS.TupMul
import HandS.TupAny
import HandS.TupLe
import HandS.Defaults
import HandS.Rev
import KE.SortData
import KE.DataMinMax
import KE.DataFind
import KE.DataEq
import KE.KTupSum
import KE.Datum
import KE.DatumOrd
import KE.KMathGC
import HandS.Gcd
import HandS.SetFor
import KE.DataCmp
import PyProof.SeqIndex
import KE.GoesMore
import KE.GoesEnum
import HandS.Words
import HandS.HeadHook2
import PySem.Challenge.RW_turnwright_k68_checks_of_the_club_book
import KE.KStateDown
import HandS.Head0
import HandS.Head1
import HandS.Head2
import HandS.Head3
import HandS.HeadEnd
import HandS.HeadHook1
set_option Elab.async false
set_option linter.all false
set_option maxRecDepth 100000
/-! Values and the plain meaning of the program's constructs: no heap, no machine. -/
namespace Ev
open PySem

/-- shared data: never changed -/
inductive D where
  | non | bl (b : Bool) | int (i : Int) | str (s : Str)
  | tup (xs : List D) | lst (xs : List D)
  | obj (c : Str) (ns : List Str) (xs : List D)
  | frl (xs : List D)          -- a list from outside, that is but read
/-- a tree of containers that belong to one slot alone; its leaves are shared data -/
inductive M where
  | d (x : D)
  | lst (xs : List M)
  | obj (c : Str) (ns : List Str) (xs : List M)

mutual
def M.fz : M → D
  | .d x => x
  | .lst xs => .lst (M.fzs xs)
  | .obj c ns xs => .obj c ns (M.fzs xs)
def M.fzs : List M → List D
  | [] => []
  | x :: r => M.fz x :: M.fzs r
end
theorem M.fzs_map : ∀ xs : List M, M.fzs xs = xs.map M.fz
  | [] => by simp [M.fzs]
  | x :: r => by simp [M.fzs, M.fzs_map r]
theorem M.fzs_d (xs : List D) : M.fzs (xs.map M.d) = xs := by
  rw [M.fzs_map, List.map_map]
  have : (M.fz ∘ M.d) = id := by funext x; simp [M.fz]
  rw [this, List.map_id]

def M.kids : M → List M
  | .d _ => []
  | .lst xs => xs
  | .obj _ _ xs => xs
def M.wk : M → List M → M
  | .d x, _ => .d x
  | .lst _, ys => .lst ys
  | .obj c ns _, ys => .obj c ns ys
def M.sub : M → List Nat → Option M
  | m, [] => some m
  | m, i :: p => match m.kids[i]? with | some x => M.sub x p | none => none
def M.put : M → List Nat → M → M
  | _, [], s => s
  | m, i :: p, s => match m.kids[i]? with | some x => m.wk (m.kids.set i (M.put x p s)) | none => m

abbrev Env := List (Option M)
def Env.slot (e : Env) (i : Nat) : Option M := match e[i]? with | some (some m) => some m | _ => none
def Env.at (e : Env) (i : Nat) (p : List Nat) : Option M := match e.slot i with | some m => m.sub p | none => none
def Env.putAt (e : Env) (i : Nat) (p : List Nat) (s : M) : Env := match e.slot i with | some m => e.set i (some (m.put p s)) | none => e

/-- a looked-at thing: shared data, or a container that a slot owns -/
inductive PV where
  | val (x : D) | at (i : Nat) (p : List Nat)
abbrev SK := Env → Option PV
abbrev SP := Env → Option D
abbrev SE := Env → Option (M × Env)
abbrev ST := Env → Option (Bool × Env)
abbrev SI := Env → Option (List D × Env)

def fIx (ns : List Str) (f : Str) : Option Nat := ns.findIdx? (fun g => g == f)
/-- the items of data that is a list or a tuple -/
def D.items : D → Option (List D)
  | .tup xs => some xs
  | .lst xs => some xs
  | .frl xs => some xs
  | _ => none
def M.items : M → Option (List M)
  | .d (.tup xs) => some (xs.map .d)
  | .d (.lst xs) => some (xs.map .d)
  | .lst xs => some xs
  | _ => none

/-! ### looking -/
def kVar (i : Nat) : SK := fun e => match e.slot i with
  | some (.d x) => some (.val x)
  | some _ => some (.at i [])
  | none => none
/-- the child at j of what is looked at -/
def kKid (e : Env) (i : Nat) (p : List Nat) (j : Nat) : Option PV := match e.at i (p ++ [j]) with
  | some (.d x) => some (.val x)
  | some _ => some (.at i (p ++ [j]))
  | none => none
def kFld (k : SK) (f : Str) : SK := fun e => match k e with
  | some (.val (.obj _ ns xs)) => match fIx ns f with
    | some j => match xs[j]? with | some x => some (.val x) | none => none
    | none => none
  | some (.at i p) => match e.at i p with
    | some (.obj _ ns _) => match fIx ns f with | some j => kKid e i p j | none => none
    | _ => none
  | _ => none
def D.ix (x : D) (i : Int) : Option D := match x with
  | .tup xs => L2.atI xs i
  | .lst xs => L2.atI xs i
  | .frl xs => L2.atI xs i
  | _ => none
def kIdx (k : SK) (q : SP) : SK := fun e => match k e with
  | some (.val x) => match q e with
    | some (.int i) => match x.ix i with | some y => some (.val y) | none => none
    | _ => none
  | some (.at i p) => match e.at i p with
    | some (.lst ms) => match q e with
      | some (.int n) => match L2.ixN ms.length n with | some j => kKid e i p j | none => none
      | _ => none
    | _ => none
  | none => none
/-- the data that is looked at, as it stands: a container of shared data may be read without being given away -/
def allD : List M → Option (List D)
  | [] => some []
  | .d x :: r => match allD r with | some xs => some (x :: xs) | none => none
  | _ :: _ => none
def PV.read (e : Env) : PV → Option D
  | .val x => some x
  | .at i p => match e.at i p with
    | some (.lst ms) => match allD ms with | some xs => some (.lst xs) | none => none
    | _ => none

/-! ### pure expressions -/
def pOf (k : SK) : SP := fun e => match k e with | some (.val x) => some x | _ => none
def pC (x : D) : SP := fun _ => some x
/-- what may be multiplied -/
def MulOk (a b : Int) : Prop := a.natAbs < 2 ^ 64 ∨ b.natAbs < 2 ^ 64 ∨ (a.natAbs < 2 ^ 400000 ∧ b.natAbs < 2 ^ 400000)
def DivOk (_a b : Int) : Prop := 0 < b ∧ b.natAbs < 2 ^ 9000
def PowOk (a b : Int) : Prop := 0 ≤ b ∧ b ≤ 1000000 ∧ a.natAbs < 2 ^ 64
instance (a b : Int) : Decidable (MulOk a b) := by unfold MulOk; infer_instance
instance (a b : Int) : Decidable (DivOk a b) := by unfold DivOk; infer_instance
instance (a b : Int) : Decidable (PowOk a b) := by unfold PowOk; infer_instance
def binI : Operator → Int → Int → Option Int
  | .Add, a, b => some (a + b)
  | .Sub, a, b => some (a - b)
  | .Mult, a, b => if MulOk a b then some (a * b) else none
  | .FloorDiv, a, b => if DivOk a b then some (a / b) else none
  | .Mod, a, b => if 0 < b then some (a % b) else none
  | .Pow, a, b => if PowOk a b then some (a ^ b.toNat) else none
  | .LShift, a, b => if PowOk a b then some (a * 2 ^ b.toNat) else none
  | .RShift, a, b => if 0 ≤ b then some (a / 2 ^ b.toNat) else none
  | .BitAnd, a, b => some (Builtin.bitAnd a b)
  | .BitOr, a, b => some (Builtin.bitOr a b)
  | .BitXor, a, b => some (Builtin.bitXor a b)
  | _, _, _ => none
def pBin (op : Operator) (a b : SP) : SP := fun e => match a e with
  | some (.int x) => match b e with
    | some (.int y) => match binI op x y with | some z => some (.int z) | none => none
    | _ => none
  | _ => none
def pNeg (a : SP) : SP := fun e => match a e with | some (.int x) => some (.int (-x)) | _ => none
def D.len : D → Option Int
  | .tup xs => some xs.length
  | .lst xs => some xs.length
  | .frl xs => some xs.length
  | _ => none
def PV.len (e : Env) : PV → Option Int
  | .val x => x.len
  | .at i p => match e.at i p with
    | some (.lst ms) => some ms.length
    | _ => none
def pLen (k : SK) : SP := fun e => match k e with
  | some v => match v.len e with | some n => some (.int n) | none => none
  | none => none

/-! ### data compared -/
mutual
def D.py : D → Option PyData
  | .non => some .none
  | .bl b => some (.bool b)
  | .int i => some (.int i)
  | .str s => some (.str s)
  | .tup xs => match D.pys xs with | some ys => some (.tuple ys) | none => none
  | .lst xs => match D.pys xs with | some ys => some (.list ys) | none => none
  | .obj _ _ _ => none
  | .frl _ => none
def D.pys : List D → Option (List PyData)
  | [] => some []
  | x :: r => match D.py x with
    | some y => match D.pys r with | some ys => some (y :: ys) | none => none
    | none => none
end
mutual
/-- data back from what it is compared as -/
def ofPy : PyData → D
  | .none => .non
  | .bool b => .bl b
  | .int i => .int i
  | .str s => .str s
  | .tuple xs => .tup (ofPys xs)
  | .list xs => .lst (ofPys xs)
  | .dict _ => .non
def ofPys : List PyData → List D
  | [] => []
  | x :: r => ofPy x :: ofPys r
end
/-- may be compared by == -/
def okD (x : PyData) : Bool := x.plain && decide (x.depth ≤ 32)
def eqD (x y : D) : Option Bool := match x.py, y.py with
  | some a, some b => if okD a && okD b then some (PyData.eqv a b) else none
  | _, _ => none
/-- may be compared by < -/
def okLt (x y : PyData) : Bool := okD x && okD y && W.alike x y && (match x with | .none => false | _ => true)
def ltD (f : PyData → PyData → Bool) (x y : D) : Option Bool := match x.py, y.py with
  | some a, some b => if okLt a b then some (f a b) else none
  | _, _ => none
def cmpD : CmpOp → D → D → Option Bool
  | .Eq, x, y => eqD x y
  | .NotEq, x, y => match eqD x y with | some b => some (!b) | none => none
  | .Lt, x, y => match x, y with | .int a, .int b => some (decide (a < b)) | x, y => ltD (W.dataLt) x y
  | .LtE, x, y => match x, y with | .int a, .int b => some (decide (a ≤ b)) | x, y => ltD (fun a b => !W.dataLt b a) x y
  | .Gt, x, y => match x, y with | .int a, .int b => some (decide (b < a)) | x, y => ltD (fun a b => W.dataLt b a) x y
  | .GtE, x, y => match x, y with | .int a, .int b => some (decide (b ≤ a)) | x, y => ltD (fun a b => !W.dataLt a b) x y
  | .Is, x, y => match y with | .non => some (match x with | .non => true | _ => false) | _ => none
  | .IsNot, x, y => match y with | .non => some (match x with | .non => false | _ => true) | _ => none
  | _, _, _ => none
/-- an item and a sequence that may be compared with it -/
def cmpAll (x : D) (ys : List D) : Option (PyData × List PyData) := match x.py, D.pys ys with
  | some p, some ps => if okD p && ps.all okD then some (p, ps) else none
  | _, _ => none
/-- x in xs -/
def inD (x : D) (ys : List D) : Option Bool := match cmpAll x ys with
  | some (p, ps) => some (ps.any fun q => PyData.eqv q p)
  | none => none
/-- the place of the first that is equal -/
def idxD (y : D) (xs : List D) : Option Nat := match cmpAll y xs with
  | some (p, ps) => ps.findIdx? fun q => PyData.eqv q p
  | none => none
def cntD (y : D) (xs : List D) : Option Nat := match cmpAll y xs with
  | some (p, ps) => some (ps.countP fun q => PyData.eqv q p)
  | none => none

/-! ### statements -/
inductive R where
  | nx (e : Env) | rt (m : M) (e : Env) | bk (e : Env) | ct (e : Env)
abbrev SS := Env → Option R
end Ev
set_option Elab.async false
set_option linter.all false
set_option maxRecDepth 100000
/-! The meaning of expressions and statements, as functions of the slots. -/
namespace Ev
open PySem

/-! ### values -/
def cP (q : SP) : SE := fun e => match q e with | some x => some (.d x, e) | none => none
/-- a container that is handed on is from then on shared -/
def cK (k : SK) : SE := fun e => match k e with
  | some (.val x) => some (.d x, e)
  | some (.at i p) => match e.at i p with
    | some m => some (.d m.fz, e.putAt i p (.d m.fz))
    | none => none
  | none => none
def line : Nat := 16777216
def binV (op : Operator) (x y : D) : Option M := match x, y with
  | .int a, .int b => match binI op a b with | some c => some (.d (.int c)) | none => none
  | .lst a, .lst b => match op with
    | .Add => if a.length + b.length ≤ line then some (.lst ((a ++ b).map .d)) else none
    | _ => none
  | .tup a, .tup b => match op with
    | .Add => if a.length + b.length ≤ line then some (.d (.tup (a ++ b))) else none
    | _ => none
  | .lst a, .int n => match op with
    | .Mult => if n.natAbs ≤ line ∧ a.length * n.toNat ≤ line then some (.lst ((List.replicate n.toNat a).flatten.map .d)) else none
    | _ => none
  | .tup a, .int n => match op with
    | .Mult => if a ≠ [] ∧ 2 ≤ n ∧ n ≤ 1000 ∧ a.length ≤ 1000 then some (.d (.tup (List.replicate n.toNat a).flatten)) else if n = 1 then some (.d (.tup a)) else none
    | _ => none
  | _, _ => none
def cBin (op : Operator) (a b : SE) : SE := fun e => match a e with
  | some (x, e1) => match b e1 with
    | some (y, e2) => match binV op x.fz y.fz with | some z => some (z, e2) | none => none
    | none => none
  | none => none
def cNeg (a : SE) : SE := fun e => match a e with
  | some (.d (.int x), e1) => some (.d (.int (-x)), e1)
  | _ => none
def cCmp (op : CmpOp) (a b : SE) : SE := fun e => match a e with
  | some (x, e1) => match b e1 with
    | some (y, e2) => match cmpD op x.fz y.fz with | some z => some (.d (.bl z), e2) | none => none
    | none => none
  | none => none
/-- x in c, x not in c -/
def cIn (neg : Bool) (a b : SE) : SE := fun e => match a e with
  | some (x, e1) => match b e1 with
    | some (y, e2) => match y.fz.items with
      | some ys => match inD x.fz ys with | some z => some (.d (.bl (if neg then !z else z)), e2) | none => none
      | none => none
    | none => none
  | none => none
/-- .. where the container is but looked at, and x is pure -/
def cInK (neg : Bool) (a : SP) (k : SK) : SE := fun e => match a e with
  | some x => match k e with
    | some v => match v.read e with
      | some y => match y.items with
        | some ys => match inD x ys with | some z => some (.d (.bl (if neg then !z else z)), e) | none => none
        | none => none
      | none => none
    | none => none
  | none => none
def cAnd (a b : SE) : SE := fun e => match a e with
  | some (.d (.bl x), e1) => if x then b e1 else some (.d (.bl false), e1)
  | _ => none
def cOr (a b : SE) : SE := fun e => match a e with
  | some (.d (.bl x), e1) => if x then some (.d (.bl true), e1) else b e1
  | _ => none
def cNot (a : SE) : SE := fun e => match a e with
  | some (.d (.bl x), e1) => some (.d (.bl (!x)), e1)
  | _ => none
def cIf (t : ST) (a b : SE) : SE := fun e => match t e with
  | some (x, e1) => if x then a e1 else b e1
  | none => none
def evL : List SE → Env → Option (List M × Env)
  | [], e => some ([], e)
  | c :: r, e => match c e with
    | some (m, e1) => match evL r e1 with | some (ms, e2) => some (m :: ms, e2) | none => none
    | none => none
def cTup (cs : List SE) : SE := fun e => match evL cs e with
  | some (ms, e1) => if ms.length ≤ line then some (.d (.tup (M.fzs ms)), e1) else none
  | none => none
def cLst (cs : List SE) : SE := fun e => match evL cs e with
  | some (ms, e1) => if ms.length ≤ line then some (.lst ms, e1) else none
  | none => none
def cIx (a b : SE) : SE := fun e => match a e with
  | some (x, e1) => match b e1 with
    | some (.d (.int i), e2) => match x.fz.ix i with | some y => some (.d y, e2) | none => none
    | _ => none
  | none => none
/-- name[b] where the name's container is but looked at -/
def cIxV (i : Nat) (b : SE) : SE := fun e => match e.slot i with
  | none => none
  | some _ => match b e with
    | some (.d (.int n), e1) => match e1.slot i with
      | some (.d x) => match x.ix n with | some y => some (.d y, e1) | none => none
      | some (.lst ms) => match L2.atI ms n with | some (.d y) => some (.d y, e1) | _ => none
      | _ => none
    | _ => none
/-- x[lo:hi] -/
def optI (c : Option SE) (e : Env) : Option (Option Int × Env) := match c with
  | none => some (none, e)
  | some c => match c e with | some (.d (.int i), e1) => some (some i, e1) | _ => none
def cut {α : Type} (xs : List α) (lo hi : Option Int) : List α := (xs.drop (HT.sIx xs.length 0 lo)).take (HT.sIx xs.length xs.length hi - HT.sIx xs.length 0 lo)
def sliceV (x : D) (lo hi : Option Int) : Option M := match x with
  | .lst xs => some (.lst ((cut xs lo hi).map .d))
  | .frl xs => some (.lst ((cut xs lo hi).map .d))
  | .tup xs => some (.d (.tup (cut xs lo hi)))
  | _ => none
def cSl (a : SE) (lo hi : Option SE) : SE := fun e => match a e with
  | some (x, e1) => match optI lo e1 with
    | some (l, e2) => match optI hi e2 with
      | some (h, e3) => match sliceV x.fz l h with | some m => some (m, e3) | none => none
      | none => none
    | none => none
  | none => none
def cFld (a : SE) (f : Str) : SE := fun e => match a e with
  | some (x, e1) => match x.fz with
    | .obj _ ns xs => match fIx ns f with
      | some j => match xs[j]? with | some y => some (.d y, e1) | none => none
      | none => none
    | _ => none
  | none => none

/-! ### built-in functions -/
/-- by a look -/
def bK (f : D → Option M) (k : SK) : SE := fun e => match k e with
  | some v => match v.read e with
    | some x => match f x with | some m => some (m, e) | none => none
    | none => none
  | none => none
/-- by values -/
def bV (f : List D → Option M) (cs : List SE) : SE := fun e => match evL cs e with
  | some (ms, e1) => match f (M.fzs ms) with | some m => some (m, e1) | none => none
  | none => none
def one (f : D → Option M) : List D → Option M
  | [x] => f x
  | _ => none
def asInts : List D → Option (List Int)
  | [] => some []
  | .int i :: r => match asInts r with | some is => some (i :: is) | none => none
  | _ :: _ => none
def lenD (x : D) : Option M := match x.len with | some n => some (.d (.int n)) | none => none
def lstD (x : D) : Option M := match x.items with | some xs => some (.lst (xs.map .d)) | none => none
def tupD (x : D) : Option M := match x.items with | some xs => some (.d (.tup xs)) | none => none
def sumD (x : D) : Option M := match x.items with
  | some xs => match asInts xs with | some is => some (.d (.int is.sum)) | none => none
  | none => none
def okAll (xs : List PyData) : Bool := xs.all fun x => xs.all fun y => okLt x y
def minD (x : D) : Option M := match x.items with
  | some xs => match D.pys xs with
    | some (a :: r) => if okAll (a :: r) then some (.d (ofPy (W.minD a r))) else none
    | _ => none
  | none => none
def maxD (x : D) : Option M := match x.items with
  | some xs => match D.pys xs with
    | some (a :: r) => if okAll (a :: r) then some (.d (ofPy (W.maxD a r))) else none
    | _ => none
  | none => none
/-- sorted(x) -/
def srtOk (xs : List PyData) : Bool := okAll xs && ((xs.all fun x => match x with | .tuple (_ :: _) => true | _ => false) || (xs.all fun x => match x with | .none => false | .tuple _ => false | _ => true))
def sortD (x : D) : Option M := match x.items with
  | some xs => match D.pys xs with
    | some ys => if srtOk ys && decide (ys.length ≤ line) then some (.lst ((ofPys (ys.mergeSort (W.dataLe false id))).map .d)) else none
    | none => none
  | none => none
def minL : List D → Option M
  | [x] => minD x
  | [.int a, .int b] => some (.d (.int (if b < a then b else a)))
  | _ => none
def maxL : List D → Option M
  | [x] => maxD x
  | [.int a, .int b] => some (.d (.int (if b > a then b else a)))
  | _ => none
def intL : List D → Option M
  | [.int a] => some (.d (.int a))
  | [.bl b] => some (.d (.int (if b then 1 else 0)))
  | _ => none
def absL : List D → Option M
  | [.int a] => some (.d (.int (if a < 0 then -a else a)))
  | _ => none
def gcdL : List D → Option M
  | [.int a, .int b] => some (.d (.int ((Nat.gcd a.natAbs b.natAbs : Nat) : Int)))
  | _ => none
def combL : List D → Option M
  | [.int a, .int b] => if 0 ≤ a ∧ 0 ≤ b ∧ a < 2 ^ 64 ∧ (b ≤ 9000 ∨ a ≤ 18000) then some (.d (.int (PySem.W.mcComb a b))) else none
  | _ => none
def asBls : List D → Option (List Bool)
  | [] => some []
  | .bl b :: r => match asBls r with | some bs => some (b :: bs) | none => none
  | _ :: _ => none
/-- all(xs), any(xs) of a list of bools -/
def allBD (x : D) : Option M := match x with
  | .lst ds => match asBls ds with | some bs => some (.d (.bl (bs.all id))) | none => none
  | _ => none
def anyBD (x : D) : Option M := match x with
  | .lst ds => match asBls ds with | some bs => some (.d (.bl (bs.any id))) | none => none
  | _ => none
/-- isinstance(x, T): T by name -/
def tyD : D → Option String
  | .non => some "NoneType"
  | .int _ => some "int"
  | .bl _ => some "bool"
  | .str _ => some "str"
  | .tup _ => some "tuple"
  | .lst _ => some "list"
  | .frl _ => some "list"
  | .obj _ _ _ => none
def isB (t T : String) : Bool := t == T || (t == "bool" && T == "int")
def known (T : String) : Bool := T == "int" || T == "bool" || T == "str" || T == "tuple" || T == "list"
def isTs (Ts : List String) (x : D) : Option M := match tyD x with
  | some t => if Ts.all known then some (.d (.bl (Ts.any (isB t)))) else none
  | none => none
def rangeI (lo hi : Int) : List Int := (List.range (hi - lo).toNat).map fun i => lo + (i : Nat)
def smallR (lo hi : Int) : Bool := decide (lo.natAbs < 2 ^ 60) && decide (hi.natAbs < 2 ^ 60)
def rangeL (bound : Bool) : List D → Option (List D)
  | [.int n] => if smallR 0 n && (!bound || decide (n.toNat ≤ line)) then some ((rangeI 0 n).map .int) else none
  | [.int a, .int b] => if smallR a b && (!bound || decide ((b - a).toNat ≤ line)) then some ((rangeI a b).map .int) else none
  | _ => none
/-- range(a, b, c), c above 0; range(a, b, -1) -/
def stepI (a b c : Int) : List Int := (List.range ((b - a + c - 1) / c).toNat).map fun i => a + (i : Nat) * c
def downI (a b : Int) : List Int := (List.range (a - b).toNat).map fun i => a + (i : Nat) * (-1)
def rangeC : List D → Option (List D)
  | [.int a, .int b, .int c] => if smallR a b = true ∧ 1 ≤ c ∧ c < 536870912 then some ((stepI a b c).map .int) else if smallR a b = true ∧ c = -1 then some ((downI a b).map .int) else none
  | _ => none
/-- list(range(..)) -/
def lstRange (xs : List D) : Option M := match rangeL true xs with | some ys => some (.lst (ys.map .d)) | none => none
/-- len(set(xs)) of whole numbers -/
def lenSet (x : D) : Option M := match x.items with
  | some xs => match asInts xs with
    | some is => if is.Nodup ∧ is.length ≤ 4000 then some (.d (.int is.length)) else none
    | none => none
  | none => none
/-- xs.index(y), xs.count(y) -/
def mthD (m : String) (x : D) (ys : List D) : Option M := match x.items with
  | some xs => match ys with
    | [y] => if m = "index" then (match idxD y xs with | some j => some (.d (.int j)) | none => none)
      else if m = "count" then (match cntD y xs with | some j => some (.d (.int j)) | none => none) else none
    | _ => none
  | none => none
/-- a method that reads, by values -/
def mV (m : String) (a : SE) (cs : List SE) : SE := fun e => match a e with
  | some (x, e1) => match evL cs e1 with
    | some (ms, e2) => match mthD m x.fz (M.fzs ms) with | some z => some (z, e2) | none => none
    | none => none
  | none => none
def evP : List SP → Env → Option (List D)
  | [], _ => some []
  | q :: r, e => match q e with
    | some x => match evP r e with | some xs => some (x :: xs) | none => none
    | none => none
/-- .. by a look, the arguments pure -/
def mK (m : String) (k : SK) (qs : List SP) : SE := fun e => match k e with
  | some v => match v.read e with
    | some x => match evP qs e with
      | some ys => match mthD m x ys with | some z => some (z, e) | none => none
      | none => none
    | none => none
  | none => none

/-! ### tests -/
def truth : D → Option Bool
  | .bl b => some b
  | .int i => some (i != 0)
  | .non => some false
  | .tup xs => some (!xs.isEmpty)
  | .lst xs => some (!xs.isEmpty)
  | .frl xs => some (!xs.isEmpty)
  | _ => none
def tV (c : SE) : ST := fun e => match c e with
  | some (m, e1) => match truth m.fz with | some b => some (b, e1) | none => none
  | none => none
/-- a value that is a bool -/
def tB (c : SE) : ST := fun e => match c e with
  | some (.d (.bl b), e1) => some (b, e1)
  | _ => none
def tK (k : SK) : ST := fun e => match k e with
  | some v => match v.read e with
    | some x => match truth x with | some b => some (b, e) | none => none
    | none => none
  | none => none
def tAnd (a b : ST) : ST := fun e => match a e with
  | some (x, e1) => if x then b e1 else some (false, e1)
  | none => none
def tOr (a b : ST) : ST := fun e => match a e with
  | some (x, e1) => if x then some (true, e1) else b e1
  | none => none
def tNot (a : ST) : ST := fun e => match a e with
  | some (x, e1) => some (!x, e1)
  | none => none
def tYes : ST := fun e => some (true, e)

/-! ### what is walked -/
def iV (c : SE) : SI := fun e => match c e with
  | some (m, e1) => match m.fz.items with | some xs => some (xs, e1) | none => none
  | none => none
def iRng (cs : List SE) : SI := fun e => match evL cs e with
  | some (ms, e1) => match rangeL false (M.fzs ms) with | some xs => some (xs, e1) | none => none
  | none => none
def iRngC (cs : List SE) : SI := fun e => match evL cs e with
  | some (ms, e1) => match rangeC (M.fzs ms) with | some xs => some (xs, e1) | none => none
  | none => none
def enumD (xs : List D) : List D := (List.range xs.length).zip xs |>.map fun p => .tup [.int (p.1 : Nat), p.2]
def iEnum (c : SE) : SI := fun e => match c e with
  | some (m, e1) => match m.fz.items with | some xs => some (enumD xs, e1) | none => none
  | none => none
def zipD (xs ys : List D) : List D := (xs.zip ys).map fun p => .tup [p.1, p.2]
/-- zip of two lists, or of two tuples, of one length -/
def zipOk (x y : D) : Option (List D) := match x, y with
  | .lst xs, .lst ys => if xs.length = ys.length then some (zipD xs ys) else none
  | .tup xs, .tup ys => if xs.length = ys.length then some (zipD xs ys) else none
  | _, _ => none
def iZip (a b : SE) : SI := fun e => match a e with
  | some (x, e1) => match b e1 with
    | some (y, e2) => match zipOk x.fz y.fz with | some xs => some (xs, e2) | none => none
    | none => none
  | none => none
def iRev (c : SE) : SI := fun e => match c e with
  | some (m, e1) => match m.fz.items with | some xs => some (xs.reverse, e1) | none => none
  | none => none

/-! ### targets -/
inductive Tg where
  | n (i : Nat) | t (gs : List Tg)
mutual
def Tg.set : Tg → D → Env → Option Env
  | .n i, x, e => some (e.set i (some (.d x)))
  | .t gs, x, e => match x with
    | .tup xs => Tg.sets gs xs e
    | _ => none
def Tg.sets : List Tg → List D → Env → Option Env
  | [], [], e => some e
  | g :: gs, x :: xs, e => match Tg.set g x e with | some e1 => Tg.sets gs xs e1 | none => none
  | _, _, _ => none
end

/-! ### comprehensions -/
def wipeE (e : Env) : List Nat → Env
  | [] => e
  | v :: vs => (wipeE e vs).set v none
/-- the slots vs as they were in e0 -/
def backE (e0 : Env) (e : Env) : List Nat → Env
  | [] => e
  | v :: vs => (backE e0 e vs).set v (e0.getD v none)
/-- the slots hold no container -/
def flatE (e : Env) (vs : List Nat) : Bool := vs.all fun v => match e.slot v with | none => true | some (.d _) => true | _ => false
mutual
def Tg.ns : Tg → List Nat
  | .n i => [i]
  | .t gs => Tg.nss gs
def Tg.nss : List Tg → List Nat
  | [] => []
  | g :: gs => Tg.ns g ++ Tg.nss gs
end
def compL (g : Tg) (t : ST) (c : SE) (vs : List Nat) : List D → Env → Option (List M × Env)
  | [], e => some ([], e)
  | x :: r, e => match g.set x (wipeE e vs) with
    | none => none
    | some e1 => match t e1 with
      | none => none
      | some (false, e2) => compL g t c vs r e2
      | some (true, e2) => match c e2 with
        | none => none
        | some (m, e3) => match compL g t c vs r e3 with
          | some (ms, e4) => some (m :: ms, e4)
          | none => none
def cComp (vs : List Nat) (it : SI) (g : Tg) (t : ST) (c : SE) : SE := fun e => match it e with
  | none => none
  | some (xs, e1) => if xs.length < line ∧ flatE e1 vs = true ∧ (g.ns.all fun j => vs.contains j) = true then
      match compL g t c vs xs e1 with
      | some (ms, e2) => some (.lst ms, backE e1 e2 vs)
      | none => none
    else none
/-- a comprehension in a comprehension's turn -/
def compL2 (g : Tg) (t : ST) (it1 : SI) (g1 : Tg) (t1 : ST) (c : SE) (vs vs1 : List Nat) : List D → Env → Option (List M × Env)
  | [], e => some ([], e)
  | x :: r, e => match g.set x (wipeE e vs) with
    | none => none
    | some e1 => match t e1 with
      | none => none
      | some (false, e2) => compL2 g t it1 g1 t1 c vs vs1 r e2
      | some (true, e2) => match it1 e2 with
        | none => none
        | some (ys, e3) => match compL g1 t1 c vs1 ys e3 with
          | some (ms, e4) => match compL2 g t it1 g1 t1 c vs vs1 r e4 with
            | some (ms', e5) => some (ms ++ ms', e5)
            | none => none
          | none => none
def cComp2 (vs vs1 : List Nat) (it : SI) (g : Tg) (t : ST) (it1 : SI) (g1 : Tg) (t1 : ST) (c : SE) : SE := fun e => match it e with
  | none => none
  | some (xs, e1) => if xs.length < line ∧ flatE e1 vs = true ∧ (g.ns.all fun j => vs.contains j) = true ∧ (g1.ns.all fun j => vs1.contains j) = true ∧ (vs1.all fun j => vs.contains j) = true then
      match compL2 g t it1 g1 t1 c vs vs1 xs e1 with
      | some (ms, e2) => if ms.length ≤ line then some (.lst ms, backE e1 e2 vs) else none
      | none => none
    else none

/-! ### calls of the program's own -/
inductive AV where
  | m (m : M) | lend (i : Nat)
abbrev SA := Env → Option (AV × Env)
def aV (c : SE) : SA := fun e => match c e with | some (m, e1) => some (.m m, e1) | none => none
/-- a name's container is lent; shared data is handed on -/
def aL (i : Nat) : SA := fun e => match e.slot i with
  | some (.d x) => some (.m (.d x), e)
  | some _ => some (.lend i, e)
  | none => none
def evA : List SA → Env → Option (List AV × Env)
  | [], e => some ([], e)
  | a :: r, e => match a e with
    | some (v, e1) => match evA r e1 with | some (vs, e2) => some (v :: vs, e2) | none => none
    | none => none
/-- the lent ones are taken out of their slots -/
def takeA : List AV → Env → Option (List M × Env)
  | [], e => some ([], e)
  | .m m :: r, e => match takeA r e with | some (ms, e1) => some (m :: ms, e1) | none => none
  | .lend i :: r, e => match e.slot i with
    | some m => match takeA r (e.set i none) with | some (ms, e1) => some (m :: ms, e1) | none => none
    | none => none
/-- and come back -/
def backA (avs : List AV) : List Nat → List M → Env → Env
  | j :: mu, o :: os, e => match avs[j]? with
    | some (.lend i) => backA avs mu os (e.set i (some o))
    | _ => backA avs mu os e
  | _, _, e => e
/-- only what the callee hands back may be lent -/
def lentOk (mu : List Nat) (avs : List AV) : Bool := (List.range avs.length).all fun j => match avs[j]? with | some (.lend _) => mu.contains j | _ => true
abbrev Fn := List M → Option (M × List M)
/-- the written arguments, then the defaults dn -/
def cCall (r : Fn) (mu : List Nat) (dn : List Int) (as : List SA) : SE := fun e => match evA as e with
  | none => none
  | some (avs, e1) => match takeA avs e1 with
    | none => none
    | some (ms, e2) => match r (ms ++ dn.map fun i => .d (.int i)) with
      | some (m, os) => some (m, backA avs mu os e2)
      | none => none
/-- the class of a receiver, if it has no field of the name -/
def M.cls (f : Str) : M → Option Str
  | .d (.obj c ns _) => if fIx ns f = none then some c else none
  | .obj c ns _ => if fIx ns f = none then some c else none
  | _ => none
def AV.cls (f : Str) (e : Env) : AV → Option Str
  | .m x => x.cls f
  | .lend i => match e.slot i with | some x => x.cls f | none => none
structure Mt where
  r : Fn
  mu : List Nat
  dn : List Int
/-- a.f(..): tb tells the methods of that name, by class -/
def cMeth (f : Str) (tb : Str → Option Mt) (a : SA) (as : List SA) : SE := fun e => match a e with
  | none => none
  | some (av, e1) => match av.cls f e1 with
    | none => none
    | some c => match tb c with
      | none => none
      | some t => match evA as e1 with
        | none => none
        | some (avs, e2) => match takeA (av :: avs) e2 with
          | none => none
          | some (ms, e3) => match t.r (ms ++ t.dn.map fun i => .d (.int i)) with
            | some (m, os) => some (m, backA (av :: avs) t.mu os e3)
            | none => none
/-- C(..) -/
def cMake (c : Str) (r : Fn) (dn : List Int) (as : List SA) : SE := fun e => match evA as e with
  | none => none
  | some (avs, e1) => match takeA avs e1 with
    | none => none
    | some (ms, e2) => match r (.obj c [] [] :: (ms ++ dn.map fun i => .d (.int i))) with
        | some (.d .non, [o]) => some (o, e2)
        | _ => none

/-! ### statements -/
def sSkip : SS := fun e => some (.nx e)
def sFail : SS := fun _ => none
def sSeq (a b : SS) : SS := fun e => match a e with
  | some (.nx e1) => b e1
  | r => r
def sDrop (c : SE) : SS := fun e => match c e with | some (_, e1) => some (.nx e1) | none => none
def sAsg (i : Nat) (c : SE) : SS := fun e => match c e with | some (m, e1) => some (.nx (e1.set i (some m))) | none => none
def sTgt (g : Tg) (c : SE) : SS := fun e => match c e with
  | some (m, e1) => match g.set m.fz e1 with | some e2 => some (.nx e2) | none => none
  | none => none
/-- x.f = c, x a name -/
def M.setF (fa : Str → Str → Bool) (m : M) (f : Str) (x : M) : Option M := match m with
  | .obj c ns xs => match fIx ns f with
    | some j => some (.obj c ns (xs.set j x))
    | none => if ns.length < 999 ∧ fa c f = true then some (.obj c (ns ++ [f]) (xs ++ [x])) else none
  | _ => none
def sFld (fa : Str → Str → Bool) (k : SK) (f : Str) (c : SE) : SS := fun e => match c e with
  | some (x, e1) => match k e1 with
    | some (.at i p) => match e1.at i p with
      | some m => match m.setF fa f x with | some m' => some (.nx (e1.putAt i p m')) | none => none
      | none => none
    | _ => none
  | none => none
/-- x[q] = c, x looked at -/
def M.setI (m : M) (n : Int) (x : M) : Option M := match m with
  | .lst ms => match L2.ixN ms.length n with | some j => some (.lst (ms.set j x)) | none => none
  | _ => none
def sIdx (k : SK) (q : SP) (c : SE) : SS := fun e => match c e with
  | some (x, e1) => match k e1 with
    | some (.at i p) => match q e1 with
      | some (.int n) => match e1.at i p with
        | some m => match m.setI n x with | some m' => some (.nx (e1.putAt i p m')) | none => none
        | none => none
      | _ => none
    | _ => none
  | none => none
/-- xs.append(c), xs a name -/
def sApp (i : Nat) (c : SE) : SS := fun e => match e.slot i with
  | some (.lst _) => match c e with
    | some (x, e1) => match e1.slot i with
      | some (.lst ms) => if ms.length < line then some (.nx (e1.set i (some (.lst (ms ++ [x]))))) else none
      | _ => none
    | none => none
  | _ => none
/-- k.append(q), both but looked at -/
def sAppK (k : SK) (q : SP) : SS := fun e => match k e with
  | some (.at i p) => match q e with
    | some x => match e.at i p with
      | some (.lst ms) => if ms.length < line then some (.nx (e.putAt i p (.lst (ms ++ [.d x])))) else none
      | _ => none
    | none => none
  | _ => none
def sAug (i : Nat) (op : Operator) (c : SE) : SS := fun e => match e.slot i with
  | some (.d (.int a)) => match c e with
    | some (.d (.int b), e1) => match binI op a b with | some z => some (.nx (e1.set i (some (.d (.int z))))) | none => none
    | _ => none
  | _ => none
def sIf (t : ST) (a b : SS) : SS := fun e => match t e with
  | some (x, e1) => if x then a e1 else b e1
  | none => none
def sRet (c : SE) : SS := fun e => match c e with | some (m, e1) => some (.rt m e1) | none => none
def sRetN : SS := fun e => some (.rt (.d .non) e)
/-- return x: the container goes with it -/
def sRetV (i : Nat) : SS := fun e => match e.slot i with | some m => some (.rt m (e.set i none)) | none => none
def sAssert (t : ST) : SS := fun e => match t e with | some (true, e1) => some (.nx e1) | _ => none
def sBreak : SS := fun e => some (.bk e)
def sCont : SS := fun e => some (.ct e)
def forL (g : Tg) (b : SS) : List D → Env → Option R
  | [], e => some (.nx e)
  | x :: r, e => match g.set x e with
    | none => none
    | some e1 => match b e1 with
      | some (.nx e2) => forL g b r e2
      | some (.ct e2) => forL g b r e2
      | some (.bk e2) => some (.nx e2)
      | some (.rt m e2) => some (.rt m e2)
      | none => none
def sFor (it : SI) (g : Tg) (b : SS) : SS := fun e => match it e with
  | some (xs, e1) => forL g b xs e1
  | none => none
/-- a def's run -/
def takeO : List Nat → Env → Option (List M)
  | [], _ => some []
  | j :: mu, e => match e.slot j with
    | some m => match takeO mu (e.set j none) with | some ms => some (m :: ms) | none => none
    | none => none
def startE (n : Nat) (ms : List M) : Env := ms.map some ++ List.replicate (n - ms.length) none
def runF (f : SS) (n np : Nat) (mu : List Nat) : Fn := fun ms => if ms.length = np then
    match f (startE n ms) with
    | some (.nx e) => match takeO mu e with | some os => some (.d .non, os) | none => none
    | some (.rt m e) => match takeO mu e with | some os => some (m, os) | none => none
    | _ => none
  else none
def whileL (t : ST) (b : SS) : Nat → Env → Option R
  | 0, _ => none
  | n + 1, e => match t e with
    | none => none
    | some (false, e1) => some (.nx e1)
    | some (true, e1) => match b e1 with
      | some (.nx e2) => whileL t b n e2
      | some (.ct e2) => whileL t b n e2
      | some (.bk e2) => some (.nx e2)
      | some (.rt m e2) => some (.rt m e2)
      | none => none
def sWhile (F : Nat) (t : ST) (b : SS) : SS := fun e => whileL t b F e
end Ev
set_option Elab.async false
set_option linter.all false
set_option maxRecDepth 100000
set_option maxHeartbeats 1000000
/-! How values stand in the abstract heap. -/
namespace Ev
open PySem PySem.Spec PyProof.Rows
open L2 (V HO Hp SqL SqT Same upd upd_same upd_ne)

/-- an annotated tree: the container's addresses are told -/
inductive MA where
  | d (x : D) (v : V)
  | lst (a : Addr) (ts : List MA)
  | obj (c : Str) (C dx a : Addr) (ns : List Str) (ts : List MA)
def MA.val : MA → V
  | .d _ v => v
  | .lst a _ => .ref a
  | .obj _ _ _ a _ _ => .ref a
mutual
def MA.er : MA → M
  | .d x _ => .d x
  | .lst _ ts => .lst (MA.ers ts)
  | .obj c _ _ _ ns ts => .obj c ns (MA.ers ts)
def MA.ers : List MA → List M
  | [] => []
  | t :: r => MA.er t :: MA.ers r
end
abbrev Cell := Addr × HO
mutual
def MA.cells : MA → List Cell
  | .d _ _ => []
  | .lst a ts => (a, .lst (ts.map MA.val)) :: MA.cellsL ts
  | .obj _ C dx a ns ts => (a, .ins C dx (ns.zip (ts.map MA.val))) :: (dx, .own a) :: MA.cellsL ts
def MA.cellsL : List MA → List Cell
  | [] => []
  | t :: r => MA.cells t ++ MA.cellsL r
end
theorem ers_map : ∀ ts : List MA, MA.ers ts = ts.map MA.er
  | [] => by simp [MA.ers]
  | t :: r => by simp [MA.ers, ers_map r]
theorem cellsL_app : ∀ ts us : List MA, MA.cellsL (ts ++ us) = MA.cellsL ts ++ MA.cellsL us
  | [], us => by simp [MA.cellsL]
  | t :: r, us => by simp [MA.cellsL, cellsL_app r us]

/-- a tuple as it is made: no dict of its own -/
def mkT (its : List Value) : Obj := { cls := .type "tuple", data := .seq its.toArray }
abbrev HOt (its : List Value) (vs : List V) : HO := .frz (mkT its) (.tup vs)
/-- at a a plain tuple of xs: made by the program, or written at its top -/
def PTu (K : PySem.W.Frag) (B : Hp) (a : Addr) (xs : List V) : Prop :=
  (∃ its, B a = some (HOt its xs)) ∨ ∃ (o : Obj) (its : Array Value) (n : Nat), K.lookup a = some o ∧ o.cls = .type "tuple" ∧ o.dict = none ∧ o.data = .seq its n ∧ its.size ≤ sizeLine ∧ L2.Vals xs its.toList
theorem PTu.sq {K : PySem.W.Frag} {B : Hp} {a : Addr} {xs : List V} (h : PTu K B a xs) : SqT K B a xs := by
  rcases h with ⟨its, h⟩ | ⟨o, its, n, h1, h2, _, h3⟩
  · exact .inl (.inr ⟨_, h⟩)
  · exact .inr ⟨o, its, n, h1, h2, h3⟩
theorem PTu.mono {K : PySem.W.Frag} {B B' : Hp} {a : Addr} {xs : List V} (e : Same B B') (h : PTu K B a xs) : PTu K B' a xs := by
  rcases h with ⟨its, h⟩ | h
  · exact .inl ⟨its, e _ _ h⟩
  · exact .inr h
section
variable (K : PySem.W.Frag) (ct : Str → Option Addr)
/-- c is the class at C; ns are attributes that the class itself has not -/
structure ObjC (c : Str) (C : Addr) (ns : List Str) : Prop where
  at_ : ct c = some C
  cls : L2.Cls K C
  na : ∀ f ∈ ns, L2.NoAttr K C f
  few : ns.length < 1000
mutual
def RepD (B : Hp) : D → V → Prop
  | .non, v => v = .non
  | .bl b, v => v = .bl b
  | .int i, v => v = .int i
  | .str s, v => v = .str s
  | .tup ds, v => ∃ a xs, v = .ref a ∧ PTu K B a xs ∧ RepDs B ds xs
  | .lst ds, v => ∃ a xs, v = .ref a ∧ B a = some (.lst xs) ∧ RepDs B ds xs
  | .frl ds, v => ∃ a xs, v = .ref a ∧ SqL K B a xs ∧ RepDs B ds xs
  | .obj c ns ds, v => ∃ a C dx xs, v = .ref a ∧ ObjC K ct c C ns ∧ B a = some (.ins C dx (ns.zip xs)) ∧ ns.length = ds.length ∧ RepDs B ds xs
def RepDs (B : Hp) : List D → List V → Prop
  | [], vs => vs = []
  | d :: ds, vs => ∃ v r, vs = v :: r ∧ RepD B d v ∧ RepDs B ds r
end
mutual
/-- the leaves are represented, the sizes are within -/
def MA.ok (B : Hp) : MA → Prop
  | .d x v => RepD K ct B x v
  | .lst _ ts => MA.oks B ts
  | .obj c C _ _ ns ts => ObjC K ct c C ns ∧ ns.length = ts.length ∧ MA.oks B ts
def MA.oks (B : Hp) : List MA → Prop
  | [] => True
  | t :: r => MA.ok B t ∧ MA.oks B r
end
end

section
variable {K : PySem.W.Frag} {ct : Str → Option Addr} {B B' H H' : Hp}
mutual
theorem RepD.mono (e : Same B B') : ∀ {d : D} {v : V}, RepD K ct B d v → RepD K ct B' d v
  | .non, _, h => by unfold RepD at *; exact h
  | .bl _, _, h => by unfold RepD at *; exact h
  | .int _, _, h => by unfold RepD at *; exact h
  | .str _, _, h => by unfold RepD at *; exact h
  | .tup ds, v, h => by
    unfold RepD at *
    obtain ⟨a, xs, q, h1, h2⟩ := h
    exact ⟨a, xs, q, h1.mono e, RepDs.mono e h2⟩
  | .lst ds, v, h => by
    unfold RepD at *
    obtain ⟨a, xs, q, h1, h2⟩ := h
    exact ⟨a, xs, q, e _ _ h1, RepDs.mono e h2⟩
  | .frl ds, v, h => by
    unfold RepD at *
    obtain ⟨a, xs, q, h1, h2⟩ := h
    exact ⟨a, xs, q, e.seq h1, RepDs.mono e h2⟩
  | .obj c ns ds, v, h => by
    unfold RepD at *
    obtain ⟨a, C, dx, xs, q, h0, h1, h3, h2⟩ := h
    exact ⟨a, C, dx, xs, q, h0, e _ _ h1, h3, RepDs.mono e h2⟩
theorem RepDs.mono (e : Same B B') : ∀ {ds : List D} {vs : List V}, RepDs K ct B ds vs → RepDs K ct B' ds vs
  | [], _, h => by unfold RepDs at *; exact h
  | d :: ds, vs, h => by
    unfold RepDs at *
    obtain ⟨v, r, q, h1, h2⟩ := h
    exact ⟨v, r, q, RepD.mono e h1, RepDs.mono e h2⟩
end
theorem RepDs.cons {d : D} {ds : List D} {v : V} {vs : List V} (h : RepD K ct B d v) (r : RepDs K ct B ds vs) : RepDs K ct B (d :: ds) (v :: vs) := by
  unfold RepDs; exact ⟨v, vs, rfl, h, r⟩
theorem RepDs.nil : RepDs K ct B [] [] := by unfold RepDs; rfl
theorem RepDs.uncons {d : D} {ds : List D} {v : V} {vs : List V} (h : RepDs K ct B (d :: ds) (v :: vs)) : RepD K ct B d v ∧ RepDs K ct B ds vs := by
  unfold RepDs at h
  obtain ⟨v', r', e, h1, h2⟩ := h
  cases e; exact ⟨h1, h2⟩
theorem RepDs.length : ∀ {ds : List D} {vs : List V}, RepDs K ct B ds vs → ds.length = vs.length
  | [], _, h => by unfold RepDs at h; subst h; rfl
  | d :: ds, vs, h => by
    unfold RepDs at h
    obtain ⟨v, r, q, _, h2⟩ := h
    subst q
    simp [RepDs.length h2]
theorem RepDs.get : ∀ {ds : List D} {vs : List V} {i : Nat} {d : D}, RepDs K ct B ds vs → ds[i]? = some d → ∃ v, vs[i]? = some v ∧ RepD K ct B d v
  | [], _, _, _, _, e => by simp at e
  | d :: ds, vs, 0, x, h, e => by
    unfold RepDs at h
    obtain ⟨v, r, q, h1, _⟩ := h
    simp at e; subst e; subst q
    exact ⟨v, rfl, h1⟩
  | d :: ds, vs, i + 1, x, h, e => by
    unfold RepDs at h
    obtain ⟨v, r, q, _, h2⟩ := h
    subst q
    obtain ⟨v', e', h'⟩ := RepDs.get (i := i) h2 (by simpa using e)
    exact ⟨v', by simpa using e', h'⟩
theorem RepDs.app : ∀ {ds es : List D} {vs ws : List V}, RepDs K ct B ds vs → RepDs K ct B es ws → RepDs K ct B (ds ++ es) (vs ++ ws)
  | [], _, _, _, h, h' => by unfold RepDs at h; subst h; exact h'
  | d :: ds, es, vs, ws, h, h' => by
    unfold RepDs at h
    obtain ⟨v, r, q, h1, h2⟩ := h
    subst q
    exact RepDs.cons h1 (RepDs.app h2 h')
theorem RepDs.drop : ∀ {ds : List D} {vs : List V} (n : Nat), RepDs K ct B ds vs → RepDs K ct B (ds.drop n) (vs.drop n)
  | _, _, 0, h => h
  | [], _, n + 1, h => by unfold RepDs at h; subst h; simp; exact RepDs.nil
  | d :: ds, vs, n + 1, h => by
    unfold RepDs at h
    obtain ⟨v, r, q, _, h2⟩ := h
    subst q
    exact RepDs.drop n h2
theorem RepDs.take : ∀ {ds : List D} {vs : List V} (n : Nat), RepDs K ct B ds vs → RepDs K ct B (ds.take n) (vs.take n)
  | _, _, 0, h => by simp; exact RepDs.nil
  | [], _, n + 1, h => by unfold RepDs at h; subst h; simp; exact RepDs.nil
  | d :: ds, vs, n + 1, h => by
    unfold RepDs at h
    obtain ⟨v, r, q, h1, h2⟩ := h
    subst q
    exact RepDs.cons h1 (RepDs.take n h2)
theorem RepDs.rev : ∀ {ds : List D} {vs : List V}, RepDs K ct B ds vs → RepDs K ct B ds.reverse vs.reverse
  | [], _, h => by unfold RepDs at h; subst h; exact RepDs.nil
  | d :: ds, vs, h => by
    unfold RepDs at h
    obtain ⟨v, r, q, h1, h2⟩ := h
    subst q
    rw [List.reverse_cons, List.reverse_cons]
    exact RepDs.app (RepDs.rev h2) (RepDs.cons h1 RepDs.nil)
theorem RepDs.rep {ds : List D} {vs : List V} (h : RepDs K ct B ds vs) : ∀ n : Nat, RepDs K ct B (List.replicate n ds).flatten (List.replicate n vs).flatten
  | 0 => by simp; exact RepDs.nil
  | n + 1 => by
    rw [List.replicate_succ, List.replicate_succ, List.flatten_cons, List.flatten_cons]
    exact RepDs.app h (RepDs.rep h n)
theorem RepDs.ints : ∀ {is : List Int}, RepDs K ct B (is.map .int) (is.map .int)
  | [] => RepDs.nil
  | i :: r => RepDs.cons (by unfold RepD; rfl) RepDs.ints

mutual
theorem MA.ok.mono (e : Same B B') : ∀ {t : MA}, MA.ok K ct B t → MA.ok K ct B' t
  | .d x v, h => by unfold MA.ok at *; exact RepD.mono e h
  | .lst a ts, h => by unfold MA.ok at *; exact MA.oks.mono e h
  | .obj c C dx a ns ts, h => by
    unfold MA.ok at *
    exact ⟨h.1, h.2.1, MA.oks.mono e h.2.2⟩
theorem MA.oks.mono (e : Same B B') : ∀ {ts : List MA}, MA.oks K ct B ts → MA.oks K ct B' ts
  | [], _ => by unfold MA.oks; trivial
  | t :: r, h => by
    unfold MA.oks at *
    exact ⟨MA.ok.mono e h.1, MA.oks.mono e h.2⟩
end
theorem oks_iff : ∀ {ts : List MA}, MA.oks K ct B ts ↔ ∀ t ∈ ts, MA.ok K ct B t
  | [] => by unfold MA.oks; simp
  | t :: r => by unfold MA.oks; rw [oks_iff]; simp

/-! ### well kept -/
/-- B the shared part; cs the cells that belong to somebody -/
structure Wf (B : Hp) (cs : List Cell) (H : Hp) : Prop where
  sub : Same B H
  own : ∀ c ∈ cs, H c.1 = some c.2 ∧ B c.1 = none
  nd : (cs.map (·.1)).Nodup
variable {cs cs' : List Cell} {p a : Addr} {o o' : HO}
theorem Wf.perm (h : Wf B cs H) (e : cs.Perm cs') : Wf B cs' H :=
  ⟨h.sub, fun c hc => h.own c (e.symm.subset hc), (e.map _).nodup_iff.mp h.nd⟩
theorem Wf.drop (h : Wf B (cs ++ cs') H) : Wf B cs' H :=
  ⟨h.sub, fun c hc => h.own c (List.mem_append_right _ hc), by
    have := h.nd; rw [List.map_append] at this; exact (List.nodup_append.mp this).2.1⟩
theorem Wf.free (h : Wf B cs H) (hp : H p = none) : B p = none := h.sub.free hp
theorem Wf.notin (h : Wf B cs H) (hp : H p = none) : p ∉ cs.map (·.1) := fun hm => by
  obtain ⟨c, hc, e⟩ := List.mem_map.mp hm
  have := (h.own c hc).1
  rw [e, hp] at this; cases this
theorem same_upd {p : Addr} {o : HO} (hp : H p = none) : Same H (upd H p o) := fun b x e => by
  rw [upd_ne (L2.ne_of_none e hp)]; exact e
/-- a new shared thing -/
theorem Wf.shared (h : Wf B cs H) (hp : H p = none) : Wf (upd B p o) cs (upd H p o) where
  sub := fun b x e => by
    by_cases hb : b = p
    · subst hb; rw [upd_same] at e ⊢; exact e
    · rw [upd_ne hb] at e ⊢; exact h.sub b x e
  own := fun c hc => by
    have hne : c.1 ≠ p := fun z => h.notin hp (z ▸ List.mem_map.mpr ⟨c, hc, rfl⟩)
    rw [upd_ne hne, upd_ne hne]; exact h.own c hc
  nd := h.nd
/-- a new owned thing -/
theorem Wf.owned (h : Wf B cs H) (hp : H p = none) : Wf B ((p, o) :: cs) (upd H p o) where
  sub := fun b x e => by
    have hne : b ≠ p := fun z => by subst z; rw [h.free hp] at e; cases e
    rw [upd_ne hne]; exact h.sub b x e
  own := fun c hc => by
    rcases List.mem_cons.mp hc with z | hc
    · subst z; exact ⟨upd_same, h.free hp⟩
    · have hne : c.1 ≠ p := fun z => h.notin hp (z ▸ List.mem_map.mpr ⟨c, hc, rfl⟩)
      rw [upd_ne hne]; exact h.own c hc
  nd := by
    rw [List.map_cons]; exact List.nodup_cons.mpr ⟨h.notin hp, h.nd⟩
/-- an owned thing is changed -/
theorem Wf.write (h : Wf B ((a, o) :: cs) H) : Wf B ((a, o') :: cs) (upd H a o') where
  sub := fun b x e => by
    have hne : b ≠ a := fun z => by subst z; rw [(h.own _ List.mem_cons_self).2] at e; cases e
    rw [upd_ne hne]; exact h.sub b x e
  own := fun c hc => by
    have nd := h.nd
    rw [List.map_cons, List.nodup_cons] at nd
    rcases List.mem_cons.mp hc with z | hc
    · subst z; exact ⟨upd_same, (h.own _ List.mem_cons_self).2⟩
    · have hne : c.1 ≠ a := fun z => nd.1 (z ▸ List.mem_map.mpr ⟨c, hc, rfl⟩)
      rw [upd_ne hne]; exact h.own c (List.mem_cons_of_mem _ hc)
  nd := by have nd := h.nd; rw [List.map_cons] at nd ⊢; exact nd
/-- an owned thing is given to all -/
theorem Wf.give1 (h : Wf B ((a, o) :: cs) H) : Wf (upd B a o) cs H where
  sub := fun b x e => by
    by_cases hb : b = a
    · subst hb; rw [upd_same] at e; cases e; exact (h.own _ List.mem_cons_self).1
    · rw [upd_ne hb] at e; exact h.sub b x e
  own := fun c hc => by
    have nd := h.nd
    rw [List.map_cons, List.nodup_cons] at nd
    have hne : c.1 ≠ a := fun z => nd.1 (z ▸ List.mem_map.mpr ⟨c, hc, rfl⟩)
    rw [upd_ne hne]; exact h.own c (List.mem_cons_of_mem _ hc)
  nd := by have nd := h.nd; rw [List.map_cons] at nd; exact (List.nodup_cons.mp nd).2
def updL (B : Hp) : List Cell → Hp
  | [] => B
  | c :: cs => updL (upd B c.1 c.2) cs
theorem Wf.give : ∀ {ds : List Cell} {B : Hp}, Wf B (ds ++ cs) H → Wf (updL B ds) cs H ∧ Same B (updL B ds) ∧ ∀ c ∈ ds, updL B ds c.1 = some c.2
  | [], B, h => ⟨h, Same.refl _, by simp⟩
  | c :: ds, B, h => by
    have h1 := Wf.give1 (a := c.1) (o := c.2) (cs := ds ++ cs) h
    obtain ⟨h2, h3, h4⟩ := Wf.give h1
    have hb : B c.1 = none := (h.own c List.mem_cons_self).2
    refine ⟨h2, (same_upd hb).trans h3, fun x hx => ?_⟩
    rcases List.mem_cons.mp hx with z | hx
    · subst z; exact h3 _ _ upd_same
    · exact h4 x hx
mutual
/-- a tree that is given to all is shared data -/
theorem frozen : ∀ {t : MA}, (∀ c ∈ t.cells, B c.1 = some c.2) → MA.ok K ct B t → RepD K ct B t.er.fz t.val
  | .d x v, _, h => by
    unfold MA.ok at h
    simp only [MA.er, M.fz, MA.val]; exact h
  | .lst a ts, hc, h => by
    unfold MA.ok at h
    simp only [MA.er, M.fz, MA.val]
    unfold RepD
    refine ⟨a, ts.map MA.val, rfl, hc (a, _) (by simp [MA.cells]), frozens (fun c hx => hc c (by simp [MA.cells, hx])) h⟩
  | .obj c C dx a ns ts, hc, h => by
    unfold MA.ok at h
    simp only [MA.er, M.fz, MA.val]
    unfold RepD
    refine ⟨a, C, dx, ts.map MA.val, rfl, h.1, hc (a, _) (by simp [MA.cells]), ?_, frozens (fun c hx => hc c (by simp [MA.cells, hx])) h.2.2⟩
    rw [M.fzs_map, ers_map]; simp [h.2.1]
theorem frozens : ∀ {ts : List MA}, (∀ c ∈ MA.cellsL ts, B c.1 = some c.2) → MA.oks K ct B ts → RepDs K ct B (M.fzs (MA.ers ts)) (ts.map MA.val)
  | [], _, _ => by simp only [MA.ers, M.fzs, List.map_nil]; exact RepDs.nil
  | t :: r, hc, h => by
    unfold MA.oks at h
    simp only [MA.ers, M.fzs, List.map_cons]
    exact RepDs.cons (frozen (fun c hx => hc c (by simp [MA.cellsL, hx])) h.1) (frozens (fun c hx => hc c (by simp [MA.cellsL, hx])) h.2)
end
end
end Ev
set_option Elab.async false
set_option linter.all false
set_option maxRecDepth 100000
set_option maxHeartbeats 1000000
/-! The slots and the heap; what a look finds; the readings. -/
namespace Ev
open PySem PySem.Spec PyProof.Rows
open L2 (V HO Hp SqL SqT Same upd upd_same upd_ne Cx)

/-! ### trees by paths -/
def MA.kids : MA → List MA
  | .d _ _ => []
  | .lst _ ts => ts
  | .obj _ _ _ _ _ ts => ts
def MA.wk : MA → List MA → MA
  | .d x v, _ => .d x v
  | .lst a _, us => .lst a us
  | .obj c C dx a ns _, us => .obj c C dx a ns us
def MA.sub : MA → List Nat → Option MA
  | t, [] => some t
  | t, i :: p => match t.kids[i]? with | some x => MA.sub x p | none => none
def MA.put : MA → List Nat → MA → MA
  | _, [], s => s
  | t, i :: p, s => match t.kids[i]? with | some x => t.wk (t.kids.set i (MA.put x p s)) | none => t
theorem er_kids (t : MA) : t.er.kids = t.kids.map MA.er := by
  cases t <;> simp [MA.er, M.kids, MA.kids, ers_map]
theorem er_wk (t : MA) (us : List MA) : (t.wk us).er = t.er.wk (us.map MA.er) := by
  cases t <;> simp [MA.er, M.wk, MA.wk, ers_map]
theorem er_sub : ∀ {p : List Nat} {t : MA} {m : M}, t.er.sub p = some m → ∃ s, t.sub p = some s ∧ s.er = m
  | [], t, m, h => ⟨t, rfl, by simpa [M.sub] using h⟩
  | i :: p, t, m, h => by
    unfold M.sub at h
    rw [er_kids, List.getElem?_map] at h
    unfold MA.sub
    cases e : t.kids[i]? with
    | none => rw [e] at h; simp at h
    | some x => rw [e] at h; exact er_sub (p := p) (t := x) h
theorem sub_er : ∀ {p : List Nat} {t s : MA}, t.sub p = some s → t.er.sub p = some s.er
  | [], t, s, h => by
    have e : t = s := by simpa [MA.sub] using h
    subst e; simp [M.sub]
  | i :: p, t, s, h => by
    unfold MA.sub at h
    unfold M.sub
    rw [er_kids, List.getElem?_map]
    cases e : t.kids[i]? with
    | none => rw [e] at h; cases h
    | some x => rw [e] at h; exact sub_er (p := p) (t := x) h
theorem wk_val (t : MA) (us : List MA) : (t.wk us).val = t.val := by cases t <;> rfl
theorem put_val : ∀ {p : List Nat} {t s s' : MA}, t.sub p = some s → s'.val = s.val → (t.put p s').val = t.val
  | [], t, s, s', h, hv => by
    have e : t = s := by simpa [MA.sub] using h
    subst e; exact hv
  | i :: p, t, s, s', h, hv => by
    unfold MA.sub at h
    unfold MA.put
    cases e : t.kids[i]? with
    | none => simp [e] at h
    | some x => exact wk_val t _
theorem set_same {α : Type} : ∀ {l : List α} {i : Nat} {x : α}, l[i]? = some x → l.set i x = l
  | [], _, _, h => by simp at h
  | a :: r, 0, x, h => by
    have e : a = x := by simpa using h
    subst e; rfl
  | a :: r, i + 1, x, h => by
    rw [List.set_cons_succ, set_same (by simpa using h)]
theorem put_er : ∀ {p : List Nat} {t s s' : MA}, t.sub p = some s → (t.put p s').er = t.er.put p s'.er
  | [], t, s, s', h => by simp [MA.put, M.put]
  | i :: p, t, s, s', h => by
    unfold MA.sub at h
    unfold MA.put M.put
    rw [er_kids, List.getElem?_map]
    cases e : t.kids[i]? with
    | none => rw [e] at h; cases h
    | some x =>
      rw [e] at h
      simp only [Option.map_some]
      rw [er_wk, List.map_set, put_er (p := p) (t := x) h]
theorem cellsL_set : ∀ {ts : List MA} {i : Nat} {x : MA}, ts[i]? = some x → ∃ R, (MA.cellsL ts).Perm (x.cells ++ R) ∧ ∀ y : MA, (MA.cellsL (ts.set i y)).Perm (y.cells ++ R)
  | [], _, _, h => by simp at h
  | t :: r, 0, x, h => by
    have e : t = x := by simpa using h
    subst e
    exact ⟨MA.cellsL r, by simp [MA.cellsL], fun y => by simp [MA.cellsL]⟩
  | t :: r, i + 1, x, h => by
    obtain ⟨R, h1, h2⟩ := cellsL_set (ts := r) (i := i) (x := x) (by simpa using h)
    refine ⟨t.cells ++ R, ?_, fun y => ?_⟩
    · simp only [MA.cellsL]
      refine (List.Perm.append_left _ h1).trans ?_
      rw [← List.append_assoc, ← List.append_assoc]
      exact List.Perm.append_right _ List.perm_append_comm
    · simp only [List.set_cons_succ, MA.cellsL]
      refine (List.Perm.append_left _ (h2 y)).trans ?_
      rw [← List.append_assoc, ← List.append_assoc]
      exact List.Perm.append_right _ List.perm_append_comm
/-- the cells of the container itself, by its items' values -/
def MA.top : MA → List V → List Cell
  | .d _ _, _ => []
  | .lst a _, vs => [(a, .lst vs)]
  | .obj _ C dx a ns _, vs => [(a, .ins C dx (ns.zip vs)), (dx, .own a)]
theorem cells_top (t : MA) : t.cells = t.top (t.kids.map MA.val) ++ MA.cellsL t.kids := by
  cases t <;> simp [MA.cells, MA.top, MA.kids, MA.cellsL]
theorem wk_top (t : MA) (us : List MA) (vs : List V) : (t.wk us).top vs = t.top vs := by cases t <;> rfl
theorem wk_kids (t : MA) (us : List MA) (h : t.kids ≠ []) : (t.wk us).kids = us := by
  cases t with
  | d _ _ => exact absurd rfl h
  | lst _ _ => rfl
  | obj _ _ _ _ _ _ => rfl
/-- a part of a tree: what else there is stays -/
theorem put_cells : ∀ {p : List Nat} {t s : MA}, t.sub p = some s → ∃ R, t.cells.Perm (s.cells ++ R) ∧ ∀ s' : MA, s'.val = s.val → (t.put p s').cells.Perm (s'.cells ++ R)
  | [], t, s, h => by
    have e : t = s := by simpa [MA.sub] using h
    subst e
    exact ⟨[], by simp, fun s' _ => by simp [MA.put]⟩
  | i :: p, t, s, h => by
    unfold MA.sub at h
    cases e : t.kids[i]? with
    | none => rw [e] at h; cases h
    | some x =>
      rw [e] at h
      obtain ⟨R, h1, h2⟩ := put_cells (p := p) (t := x) h
      obtain ⟨R', k1, k2⟩ := cellsL_set e
      have hk : t.kids ≠ [] := fun z => by rw [z] at e; simp at e
      refine ⟨t.top (t.kids.map MA.val) ++ R ++ R', ?_, fun s' hv => ?_⟩
      · rw [cells_top t]
        refine (List.Perm.append_left _ (k1.trans (List.Perm.append_right _ h1))).trans ?_
        rw [List.append_assoc, ← List.append_assoc, ← List.append_assoc, ← List.append_assoc]
        refine List.Perm.append_right _ ?_
        rw [← List.append_assoc]
        exact List.Perm.append_right _ List.perm_append_comm
      · unfold MA.put
        rw [e]
        simp only
        rw [cells_top (t.wk _), wk_kids _ _ hk, wk_top]
        have ev : (t.kids.set i (x.put p s')).map MA.val = t.kids.map MA.val := by
          rw [List.map_set, put_val h hv]
          exact set_same (by rw [List.getElem?_map, e]; rfl)
        rw [ev]
        refine (List.Perm.append_left _ ((k2 _).trans (List.Perm.append_right _ (h2 s' hv)))).trans ?_
        rw [List.append_assoc, ← List.append_assoc, ← List.append_assoc, ← List.append_assoc]
        refine List.Perm.append_right _ ?_
        rw [← List.append_assoc]
        exact List.Perm.append_right _ List.perm_append_comm

section
variable {K : PySem.W.Frag} {ct : Str → Option Addr} {B B' H H' : Hp}
theorem ok_kids {t : MA} (h : t.ok K ct B) : MA.oks K ct B t.kids := by
  cases t with
  | d x v => simp only [MA.kids]; unfold MA.oks; trivial
  | lst a ts => unfold MA.ok at h; exact h
  | obj c C dx a ns ts => unfold MA.ok at h; exact h.2.2
theorem ok_wk {t : MA} {us : List MA} (h : t.ok K ct B) (hl : us.length = t.kids.length) (hu : MA.oks K ct B us) : (t.wk us).ok K ct B := by
  cases t with
  | d x v => exact h
  | lst a ts => simp only [MA.wk]; unfold MA.ok; exact hu
  | obj c C dx a ns ts =>
    simp only [MA.wk]
    unfold MA.ok at h ⊢
    exact ⟨h.1, h.2.1.trans hl.symm, hu⟩
theorem ok_sub : ∀ {p : List Nat} {t s : MA}, t.sub p = some s → t.ok K ct B → s.ok K ct B
  | [], t, s, h, k => by
    have e : t = s := by simpa [MA.sub] using h
    subst e; exact k
  | i :: p, t, s, h, k => by
    unfold MA.sub at h
    cases e : t.kids[i]? with
    | none => simp [e] at h
    | some x =>
      rw [e] at h
      exact ok_sub (p := p) (t := x) h (oks_iff.mp (ok_kids k) x (List.mem_of_getElem? e))
theorem ok_put : ∀ {p : List Nat} {t s s' : MA}, t.sub p = some s → t.ok K ct B → s'.ok K ct B → (t.put p s').ok K ct B
  | [], t, s, s', h, k, k' => by simp only [MA.put]; exact k'
  | i :: p, t, s, s', h, k, k' => by
    unfold MA.sub at h
    unfold MA.put
    cases e : t.kids[i]? with
    | none => simp [e] at h
    | some x =>
      rw [e] at h
      refine ok_wk k (by simp) (oks_iff.mpr fun y hy => ?_)
      rcases List.mem_or_eq_of_mem_set hy with z | z
      · exact oks_iff.mp (ok_kids k) y z
      · subst z
        exact ok_put h (oks_iff.mp (ok_kids k) x (List.mem_of_getElem? e)) k'
end

/-! ### the slots -/
abbrev TE0 := List (Option MA)
def erE (τ : TE0) : Env := τ.map (·.map MA.er)
def cellsO : Option MA → List Cell
  | some t => t.cells
  | none => []
def cellsE (τ : TE0) : List Cell := τ.flatMap cellsO
structure RelS (σ : L2.St) (τ : TE0) : Prop where
  len : σ.length = τ.length
  at_ : ∀ (i : Nat) (t : MA), τ[i]? = some (some t) → σ[i]? = some (some t.val)
theorem erE_slot {τ : TE0} {i : Nat} {m : M} (h : (erE τ).slot i = some m) : ∃ t, τ[i]? = some (some t) ∧ t.er = m := by
  unfold Env.slot erE at h
  rw [List.getElem?_map] at h
  cases e : τ[i]? with
  | none => simp [e] at h
  | some o =>
    cases o with
    | none => simp [e] at h
    | some t => exact ⟨t, rfl, by simpa [e] using h⟩
theorem slot_erE {τ : TE0} {i : Nat} {t : MA} (h : τ[i]? = some (some t)) : (erE τ).slot i = some t.er := by
  unfold Env.slot erE
  rw [List.getElem?_map, h]; rfl
theorem erE_set {τ : TE0} {i : Nat} {o : Option MA} : erE (τ.set i o) = (erE τ).set i (o.map MA.er) := by
  unfold erE; rw [List.map_set]
theorem erE_at {τ : TE0} {i : Nat} {p : List Nat} {m : M} (h : (erE τ).at i p = some m) : ∃ t s, τ[i]? = some (some t) ∧ t.sub p = some s ∧ s.er = m := by
  unfold Env.at at h
  cases e : (erE τ).slot i with
  | none => simp [e] at h
  | some m0 =>
    rw [e] at h
    obtain ⟨t, h1, h2⟩ := erE_slot e
    subst h2
    obtain ⟨s, h3, h4⟩ := er_sub h
    exact ⟨t, s, h1, h3, h4⟩
theorem at_erE {τ : TE0} {i : Nat} {p : List Nat} {t s : MA} (h : τ[i]? = some (some t)) (h' : t.sub p = some s) : (erE τ).at i p = some s.er := by
  unfold Env.at
  rw [slot_erE h]
  exact sub_er h'
theorem putAt_erE {τ : TE0} {i : Nat} {p : List Nat} {t s s' : MA} (h : τ[i]? = some (some t)) (h' : t.sub p = some s) : (erE τ).putAt i p s'.er = erE (τ.set i (some (t.put p s'))) := by
  unfold Env.putAt
  rw [slot_erE h, erE_set]
  simp only [Option.map_some]
  rw [put_er h']
theorem cellsE_set : ∀ {τ : TE0} {i : Nat} {o : Option MA}, τ[i]? = some o → ∃ R, (cellsE τ).Perm (cellsO o ++ R) ∧ ∀ o', (cellsE (τ.set i o')).Perm (cellsO o' ++ R)
  | [], _, _, h => by simp at h
  | t :: r, 0, x, h => by
    have e : t = x := by simpa using h
    subst e
    exact ⟨cellsE r, by simp [cellsE], fun y => by simp [cellsE]⟩
  | t :: r, i + 1, x, h => by
    obtain ⟨R, h1, h2⟩ := cellsE_set (τ := r) (i := i) (o := x) (by simpa using h)
    unfold cellsE at h1 h2
    refine ⟨cellsO t ++ R, ?_, fun y => ?_⟩
    · simp only [cellsE, List.flatMap_cons]
      refine (List.Perm.append_left _ h1).trans ?_
      rw [← List.append_assoc, ← List.append_assoc]
      exact List.Perm.append_right _ List.perm_append_comm
    · simp only [List.set_cons_succ, cellsE, List.flatMap_cons]
      refine (List.Perm.append_left _ (h2 y)).trans ?_
      rw [← List.append_assoc, ← List.append_assoc]
      exact List.Perm.append_right _ List.perm_append_comm

section
variable (K : PySem.W.Frag) (ct : Str → Option Addr)
def OkE (B : Hp) (τ : TE0) : Prop := ∀ (i : Nat) (t : MA), τ[i]? = some (some t) → t.ok K ct B
/-- how slots, shared part, the frame F and the heap stand to one another -/
structure St (B : Hp) (F : List Cell) (σ : L2.St) (τ : TE0) (H : Hp) : Prop where
  wf : Wf B (cellsE τ ++ F) H
  ok : OkE K ct B τ
  rel : RelS σ τ
end
section
variable {K : PySem.W.Frag} {ct : Str → Option Addr} {B B' H H' : Hp} {F : List Cell} {σ : L2.St} {τ : TE0}
theorem OkE.mono (e : Same B B') (h : OkE K ct B τ) : OkE K ct B' τ := fun i t q => (h i t q).mono e
theorem OkE.set (h : OkE K ct B τ) {i : Nat} {o : Option MA} (ho : ∀ t, o = some t → t.ok K ct B) : OkE K ct B (τ.set i o) := fun j t q => by
  by_cases hj : i = j
  · subst hj
    by_cases hl : i < τ.length
    · rw [List.getElem?_set_self hl] at q
      exact ho t (Option.some.inj q)
    · rw [List.getElem?_eq_none (by simpa using hl)] at q; cases q
  · rw [List.getElem?_set_ne hj] at q
    exact h j t q
theorem RelS.set (h : RelS σ τ) {i : Nat} {t : MA} : RelS (σ.set i (some t.val)) (τ.set i (some t)) where
  len := by rw [List.length_set, List.length_set]; exact h.len
  at_ := fun j u q => by
    by_cases hj : i = j
    · subst hj
      by_cases hl : i < τ.length
      · rw [List.getElem?_set_self hl] at q
        cases q
        rw [List.getElem?_set_self (by rw [h.len]; exact hl)]
      · rw [List.getElem?_eq_none (by simpa using hl)] at q; cases q
    · rw [List.getElem?_set_ne hj] at q ⊢
      exact h.at_ j u q
/-- the slot forgets, or bears another tree at the same place -/
theorem RelS.keep (h : RelS σ τ) {i : Nat} {o : Option MA} (ho : ∀ t, o = some t → ∃ t', τ[i]? = some (some t') ∧ t'.val = t.val) : RelS σ (τ.set i o) where
  len := by rw [List.length_set]; exact h.len
  at_ := fun j u q => by
    by_cases hj : i = j
    · subst hj
      by_cases hl : i < τ.length
      · rw [List.getElem?_set_self hl] at q
        obtain ⟨t', h1, h2⟩ := ho u (Option.some.inj q)
        rw [← h2]; exact h.at_ i t' h1
      · rw [List.getElem?_eq_none (by simpa using hl)] at q; cases q
    · rw [List.getElem?_set_ne hj] at q
      exact h.at_ j u q
theorem lt_of_some {α : Type} {l : List α} {i : Nat} {x : α} (h : l[i]? = some x) : i < l.length := by
  by_cases hl : i < l.length
  · exact hl
  · rw [List.getElem?_eq_none (by simpa using hl)] at h; cases h
/-- a container inside a slot is changed in place: s by s', whose own cells are told -/
theorem St.change (h : St K ct B F σ τ H) {i : Nat} {p : List Nat} {t s s' : MA} (ht : τ[i]? = some (some t)) (hs : t.sub p = some s) (hv : s'.val = s.val)
    (hw : ∀ G, Wf B (s.cells ++ G) H → Wf B' (s'.cells ++ G) H') (sb : Same B B') (ok' : s'.ok K ct B') : St K ct B' F σ (τ.set i (some (t.put p s'))) H' := by
  obtain ⟨R, h1, h2⟩ := cellsE_set ht
  obtain ⟨R', k1, k2⟩ := put_cells hs
  refine ⟨?_, ?_, ?_⟩
  · have w := h.wf.perm ((List.Perm.append_right F (h1.trans (List.Perm.append_right R k1))).trans (by simp only [List.append_assoc]; exact List.Perm.refl _) : (cellsE τ ++ F).Perm (s.cells ++ (R' ++ (R ++ F))))
    have w' := hw _ w
    refine w'.perm ?_
    refine ((List.Perm.append_right F ((h2 (some (t.put p s'))).trans (List.Perm.append_right R (k2 s' hv)))).trans ?_).symm
    simp only [List.append_assoc]; exact List.Perm.refl _
  · exact (h.ok.mono sb).set fun u e => by
      cases e
      exact ok_put hs ((h.ok i t ht).mono sb) ok'
  · exact h.rel.keep fun u e => by
      cases e
      exact ⟨t, ht, (put_val hs hv).symm⟩
/-- .. and is given to all -/
theorem St.give (h : St K ct B F σ τ H) {i : Nat} {p : List Nat} {t s : MA} (ht : τ[i]? = some (some t)) (hs : t.sub p = some s) :
    ∃ B', St K ct B' F σ (τ.set i (some (t.put p (.d s.er.fz s.val)))) H ∧ Same B B' ∧ RepD K ct B' s.er.fz s.val := by
  have hc : (∀ c ∈ s.cells, updL B s.cells c.1 = some c.2) ∧ Same B (updL B s.cells) := by
    obtain ⟨R, h1, _⟩ := cellsE_set ht
    obtain ⟨R', k1, _⟩ := put_cells hs
    have w := h.wf.perm ((List.Perm.append_right F (h1.trans (List.Perm.append_right R k1))).trans (by simp only [List.append_assoc]; exact List.Perm.refl _) : (cellsE τ ++ F).Perm (s.cells ++ (R' ++ (R ++ F))))
    obtain ⟨_, q2, q3⟩ := Wf.give w
    exact ⟨q3, q2⟩
  have hr : RepD K ct (updL B s.cells) s.er.fz s.val := frozen hc.1 ((ok_sub hs (h.ok i t ht)).mono hc.2)
  refine ⟨updL B s.cells, h.change ht hs rfl (fun G w => ?_) hc.2 ?_, hc.2, hr⟩
  · simp only [MA.cells, List.nil_append]
    exact (Wf.give w).1
  · unfold MA.ok; exact hr
theorem updL_app : ∀ (a b : List Cell) (B : Hp), updL B (a ++ b) = updL (updL B a) b
  | [], _, _ => rfl
  | c :: a, b, B => by simp only [List.cons_append, updL]; exact updL_app a b _
/-- a temporary tree is given to all -/
theorem give_tmp {t : MA} {cs : List Cell} (w : Wf B (t.cells ++ cs) H) (ok : t.ok K ct B) : ∃ B', Wf B' cs H ∧ Same B B' ∧ RepD K ct B' t.er.fz t.val := by
  obtain ⟨q1, q2, q3⟩ := Wf.give w
  exact ⟨_, q1, q2, frozen q3 (ok.mono q2)⟩
theorem gives_tmp {ts : List MA} {cs : List Cell} (w : Wf B (MA.cellsL ts ++ cs) H) (ok : MA.oks K ct B ts) : ∃ B', Wf B' cs H ∧ Same B B' ∧ RepDs K ct B' (M.fzs (MA.ers ts)) (ts.map MA.val) := by
  obtain ⟨q1, q2, q3⟩ := Wf.give w
  exact ⟨_, q1, q2, frozens q3 (ok.mono q2)⟩
end
end Ev
set_option Elab.async false
set_option linter.all false
set_option maxRecDepth 100000
set_option maxHeartbeats 1000000
/-! The readings of looks, pure expressions, expressions: each from the hand layer's. -/
namespace Ev
open PySem PySem.Spec PyProof.Rows
open L2 (V HO Hp SqL SqT Same upd upd_same upd_ne Cx PE PT PA)

theorem PEw {X : Cx} {e : Expr} {t t' : L2.TE} (h : PE X e t) (w : ∀ σ H Q, t' σ H Q → t σ H Q) : PE X e t' :=
  ⟨fun pins s σ H Q I q => h.run pins s σ H Q I (w _ _ _ q)⟩
theorem PTw {X : Cx} {e : Expr} {t t' : L2.TT} (h : PT X e t) (w : ∀ σ H Q, t' σ H Q → t σ H Q) : PT X e t' :=
  ⟨fun pins s σ H Q I q => h.run pins s σ H Q I (w _ _ _ q)⟩
theorem PAw {X : Cx} {es : List Expr} {t t' : L2.TA} (h : PA X es t) (w : ∀ σ H Q, t' σ H Q → t σ H Q) : PA X es t' :=
  ⟨fun pos pins s σ H Q I q => h.run pos pins s σ H Q I (w _ _ _ q)⟩

section
variable (K : PySem.W.Frag) (ct : Str → Option Addr)
def PVr (B : Hp) (τ : TE0) : PV → V → Prop
  | .val x, v => RepD K ct B x v
  | .at i p, v => ∃ t s, τ[i]? = some (some t) ∧ t.sub p = some s ∧ s.val = v
def TKf (f : SK) : L2.TE := fun σ H Q => ∃ B F τ, St K ct B F σ τ H ∧ ∃ pv, f (erE τ) = some pv ∧ ∀ v, PVr K ct B τ pv v → Q v H
def TPf (f : SP) : L2.TE := fun σ H Q => ∃ B F τ, St K ct B F σ τ H ∧ ∃ x, f (erE τ) = some x ∧ ∀ v, RepD K ct B x v → Q v H
/-- behind an expression: a tree that nobody has yet, the slots' trees, the shared part grown -/
structure Aft (B : Hp) (F : List Cell) (σ : L2.St) (m : M) (e : Env) (v : V) (H' B' : Hp) (t : MA) (τ' : TE0) : Prop where
  st : St K ct B' (t.cells ++ F) σ τ' H'
  ok : t.ok K ct B'
  sb : Same B B'
  ee : erE τ' = e
  em : t.er = m
  ev : t.val = v
def TEf (f : SE) : L2.TE := fun σ H Q => ∃ B F τ, St K ct B F σ τ H ∧ ∃ m e', f (erE τ) = some (m, e') ∧ ∀ v H' B' t τ', Aft K ct B F σ m e' v H' B' t τ' → Q v H'
structure AftT (B : Hp) (F : List Cell) (σ : L2.St) (e : Env) (H' B' : Hp) (τ' : TE0) : Prop where
  st : St K ct B' F σ τ' H'
  sb : Same B B'
  ee : erE τ' = e
def TTf (f : ST) : L2.TT := fun σ H Q => ∃ B F τ, St K ct B F σ τ H ∧ ∃ b e', f (erE τ) = some (b, e') ∧ ∀ H' B' τ', AftT K ct B F σ e' H' B' τ' → Q b H'
structure AftL (B : Hp) (F : List Cell) (σ : L2.St) (ms : List M) (e : Env) (vs : List V) (H' B' : Hp) (ts : List MA) (τ' : TE0) : Prop where
  st : St K ct B' (MA.cellsL ts ++ F) σ τ' H'
  ok : MA.oks K ct B' ts
  sb : Same B B'
  ee : erE τ' = e
  em : MA.ers ts = ms
  ev : ts.map MA.val = vs
def TAf (cs : List SE) : L2.TA := fun σ H Q => ∃ B F τ, St K ct B F σ τ H ∧ ∃ ms e', evL cs (erE τ) = some (ms, e') ∧ ∀ vs H' B' ts τ', AftL K ct B F σ ms e' vs H' B' ts τ' → Q vs H'
/-- what a built-in hands back -/
def NewM (B H : Hp) : M → V → Hp → Prop
  | .d x, v, H' => (H' = H ∧ RepD K ct B x v) ∨ ∃ p ds vs its, x = .tup ds ∧ v = .ref p ∧ H p = none ∧ H' = upd H p (HOt its vs) ∧ RepDs K ct B ds vs
  | .lst ms, v, H' => ∃ p ds vs, ms = ds.map .d ∧ v = .ref p ∧ H p = none ∧ H' = upd H p (.lst vs) ∧ RepDs K ct B ds vs
  | .obj _ _ _, _, _ => False
end

section
variable {K : PySem.W.Frag} {ct : Str → Option Addr} {B B' H H' : Hp} {F : List Cell} {σ : L2.St} {τ : TE0}

theorem St.mono_cells {cs : List Cell} (h : St K ct B F σ τ H) (w : Wf B' cs H') (e : (cellsE τ ++ F).Perm cs) (sb : Same B B') : St K ct B' F σ τ H' :=
  ⟨w.perm e.symm, h.ok.mono sb, h.rel⟩
theorem St.front {cs : List Cell} (h : St K ct B (cs ++ F) σ τ H) : Wf B (cs ++ (cellsE τ ++ F)) H :=
  h.wf.perm (by rw [← List.append_assoc, ← List.append_assoc]; exact List.Perm.append_right _ List.perm_append_comm)
theorem St.ofFront {cs : List Cell} (w : Wf B (cs ++ (cellsE τ ++ F)) H) (ok : OkE K ct B τ) (rel : RelS σ τ) : St K ct B (cs ++ F) σ τ H :=
  ⟨w.perm (by rw [← List.append_assoc, ← List.append_assoc]; exact List.Perm.append_right _ List.perm_append_comm), ok, rel⟩
/-- shared data handed back -/
theorem aft_d {m0 : D} {v : V} (h : St K ct B F σ τ H) (r : RepD K ct B m0 v) : Aft K ct B F σ (.d m0) (erE τ) v H B (.d m0 v) τ :=
  ⟨by simpa [MA.cells] using h, by unfold MA.ok; exact r, Same.refl _, rfl, by simp [MA.er], rfl⟩
theorem ers_d : ∀ {ds : List D} {vs : List V}, ds.length = vs.length → MA.ers ((ds.zip vs).map fun p => MA.d p.1 p.2) = ds.map M.d
  | [], [], _ => by simp [MA.ers]
  | d :: ds, v :: vs, h => by simp [MA.ers, MA.er, ers_d (ds := ds) (vs := vs) (by simpa using h)]
  | [], _ :: _, h => by simp at h
  | _ :: _, [], h => by simp at h
theorem vals_d : ∀ {ds : List D} {vs : List V}, ds.length = vs.length → ((ds.zip vs).map fun p => MA.d p.1 p.2).map MA.val = vs
  | [], [], _ => rfl
  | d :: ds, v :: vs, h => by
    rw [List.zip_cons_cons, List.map_cons, List.map_cons, vals_d (ds := ds) (vs := vs) (by simpa using h)]
    rfl
  | [], _ :: _, h => by simp at h
  | _ :: _, [], h => by simp at h
theorem cells_d : ∀ {ds : List D} {vs : List V}, MA.cellsL ((ds.zip vs).map fun p => MA.d p.1 p.2) = []
  | [], _ => by simp [MA.cellsL]
  | _ :: _, [] => by simp [MA.cellsL]
  | d :: ds, v :: vs => by simp [MA.cellsL, MA.cells]; exact cells_d (ds := ds) (vs := vs)
theorem oks_d : ∀ {ds : List D} {vs : List V}, RepDs K ct B ds vs → MA.oks K ct B ((ds.zip vs).map fun p => MA.d p.1 p.2)
  | [], _, _ => by simp; unfold MA.oks; trivial
  | d :: ds, vs, h => by
    unfold RepDs at h
    obtain ⟨v, r, e, h1, h2⟩ := h
    subst e
    simp
    unfold MA.oks
    exact ⟨by unfold MA.ok; exact h1, by simpa using oks_d h2⟩
theorem repT {a : Addr} {ds : List D} {vs : List V} {its : List Value} (h : B a = some (HOt its vs)) (r : RepDs K ct B ds vs) : RepD K ct B (.tup ds) (.ref a) := by
  unfold RepD; exact ⟨a, vs, rfl, .inl ⟨its, h⟩, r⟩
theorem repL {a : Addr} {ds : List D} {vs : List V} (h : B a = some (.lst vs)) (r : RepDs K ct B ds vs) : RepD K ct B (.lst ds) (.ref a) := by
  unfold RepD; exact ⟨a, vs, rfl, h, r⟩
/-- a built-in's answer as a tree -/
theorem aft_new {m : M} {v : V} (h : St K ct B F σ τ H) (n : NewM K ct B H m v H') : ∃ B' t, Aft K ct B F σ m (erE τ) v H' B' t τ := by
  cases m with
  | d x =>
    rcases n with ⟨e, r⟩ | ⟨p, ds, vs, its, e1, e2, hp, e3, r⟩
    · subst e
      exact ⟨B, _, aft_d h r⟩
    · subst e1 e2 e3
      have sb : Same B (upd B p (HOt its vs)) := same_upd (h.wf.free hp)
      have h' : St K ct (upd B p (HOt its vs)) F σ τ (upd H p (HOt its vs)) := ⟨h.wf.shared hp, h.ok.mono sb, h.rel⟩
      obtain ⟨st, ok, _, ee, em, ev⟩ := aft_d h' (repT (upd_same) (r.mono sb))
      exact ⟨_, _, ⟨st, ok, sb, ee, em, ev⟩⟩
  | lst ms =>
    obtain ⟨p, ds, vs, e1, e2, hp, e3, r⟩ := n
    subst e1 e2 e3
    have hl := r.length
    refine ⟨B, .lst p ((ds.zip vs).map fun q => MA.d q.1 q.2), ⟨?_, ?_, Same.refl _, rfl, ?_, rfl⟩⟩
    · refine St.ofFront ?_ h.ok h.rel
      simp only [MA.cells, cells_d, vals_d hl]
      exact h.wf.owned hp
    · unfold MA.ok; exact oks_d r
    · simp only [MA.er, ers_d hl]
  | obj c ns ms => exact n.elim
/-- the answer's tree given to all -/
theorem Aft.give {m : M} {e : Env} {v : V} {t : MA} {τ' : TE0} (a : Aft K ct B F σ m e v H' B' t τ') : ∃ B2, St K ct B2 F σ τ' H' ∧ Same B B2 ∧ Same B' B2 ∧ erE τ' = e ∧ RepD K ct B2 m.fz v := by
  obtain ⟨B2, w, sb, r⟩ := give_tmp a.st.front a.ok
  refine ⟨B2, ⟨w, a.st.ok.mono sb, a.st.rel⟩, a.sb.trans sb, sb, a.ee, ?_⟩
  rw [← a.em, ← a.ev]; exact r
/-- the answer's tree dropped -/
theorem Aft.drop {m : M} {e : Env} {v : V} {t : MA} {τ' : TE0} (a : Aft K ct B F σ m e v H' B' t τ') : AftT K ct B F σ e H' B' τ' :=
  ⟨⟨a.st.front.drop, a.st.ok, a.st.rel⟩, a.sb, a.ee⟩
theorem AftL.give {ms : List M} {e : Env} {vs : List V} {ts : List MA} {τ' : TE0} (a : AftL K ct B F σ ms e vs H' B' ts τ') : ∃ B2, St K ct B2 F σ τ' H' ∧ Same B B2 ∧ Same B' B2 ∧ erE τ' = e ∧ RepDs K ct B2 (M.fzs ms) vs := by
  obtain ⟨B2, w, sb, r⟩ := gives_tmp a.st.front a.ok
  refine ⟨B2, ⟨w, a.st.ok.mono sb, a.st.rel⟩, a.sb.trans sb, sb, a.ee, ?_⟩
  rw [← a.em, ← a.ev]; exact r
/-- the rest of an expression behind a part of it: from a state that is reached on -/
theorem Aft.of {B1 : Hp} {m : M} {e : Env} {v : V} {t : MA} {τ' : TE0} (s1 : Same B B1) (a : Aft K ct B1 F σ m e v H' B' t τ') : Aft K ct B F σ m e v H' B' t τ' :=
  ⟨a.st, a.ok, s1.trans a.sb, a.ee, a.em, a.ev⟩
theorem AftT.of {B1 : Hp} {e : Env} {τ' : TE0} (s1 : Same B B1) (a : AftT K ct B1 F σ e H' B' τ') : AftT K ct B F σ e H' B' τ' :=
  ⟨a.st, s1.trans a.sb, a.ee⟩

/-! ### looks -/
theorem fIx_lookup : ∀ {ns : List Str} {f : Str} {j : Nat} {vs : List V} {v : V}, fIx ns f = some j → vs[j]? = some v → (ns.zip vs).lookup f = some v
  | [], _, _, _, _, h, _ => by simp [fIx] at h
  | n :: ns, f, j, [], v, h, hv => by simp at hv
  | n :: ns, f, j, w :: vs, v, h, hv => by
    unfold fIx at h
    rw [List.findIdx?_cons] at h
    rw [List.zip_cons_cons, List.lookup_cons]
    by_cases e : n = f
    · subst e
      simp at h
      subst h
      simp at hv
      simp [hv]
    · have e1 : (n == f) = false := by simpa using e
      have e2 : (f == n) = false := by simpa using fun z => e z.symm
      rw [e1] at h
      simp only [Bool.false_eq_true, if_false, Option.map_eq_some_iff] at h
      obtain ⟨k, hk, rfl⟩ := h
      rw [e2]
      exact fIx_lookup (ns := ns) (f := f) (j := k) hk (by simpa using hv)
theorem k_var {i : Nat} {Q : L2.VK} (h : TKf K ct (kVar i) σ H Q) : L2.tVar i σ H Q := by
  obtain ⟨B, F, τ, st, pv, e, q⟩ := h
  unfold kVar at e
  cases hs : (erE τ).slot i with
  | none => simp [hs] at e
  | some m =>
    obtain ⟨t, h1, h2⟩ := erE_slot hs
    refine ⟨t.val, st.rel.at_ i t h1, q _ ?_⟩
    rw [hs] at e
    cases m with
    | d x =>
      simp at e; subst e
      show RepD K ct B x t.val
      have o := st.ok i t h1
      cases t with
      | d y v => simp [MA.er] at h2; subst h2; unfold MA.ok at o; exact o
      | lst _ _ => simp [MA.er] at h2
      | obj _ _ _ _ _ _ => simp [MA.er] at h2
    | lst _ => simp at e; subst e; exact ⟨t, t, h1, rfl, rfl⟩
    | obj _ _ _ => simp at e; subst e; exact ⟨t, t, h1, rfl, rfl⟩
theorem sub_app : ∀ {p : List Nat} {t s : MA} {j : Nat}, t.sub p = some s → t.sub (p ++ [j]) = s.kids[j]?
  | [], t, s, j, h => by
    have e : t = s := by simpa [MA.sub] using h
    subst e
    simp only [List.nil_append]
    unfold MA.sub
    cases e : t.kids[j]? <;> simp [MA.sub]
  | i :: p, t, s, j, h => by
    unfold MA.sub at h
    simp only [List.cons_append]
    rw [show t.sub (i :: (p ++ [j])) = (match t.kids[i]? with | some x => MA.sub x (p ++ [j]) | none => none) from rfl]
    cases e : t.kids[i]? with
    | none => simp [e] at h
    | some x => rw [e] at h; exact sub_app (p := p) (t := x) h
/-- a child of a looked-at container -/
theorem kid_ok {i j : Nat} {p : List Nat} {t s u : MA} {pv : PV} (st : St K ct B F σ τ H) (ht : τ[i]? = some (some t)) (hs : t.sub p = some s) (hu : s.kids[j]? = some u) (e : kKid (erE τ) i p j = some pv) : PVr K ct B τ pv u.val := by
  have hu' : t.sub (p ++ [j]) = some u := (sub_app hs).trans hu
  unfold kKid at e
  rw [at_erE ht hu'] at e
  cases u with
  | d y v =>
    simp [MA.er] at e; subst e
    have o := ok_sub hu' (st.ok i t ht)
    unfold MA.ok at o; exact o
  | lst _ _ => simp [MA.er] at e; subst e; exact ⟨t, _, ht, hu', rfl⟩
  | obj _ _ _ _ _ _ => simp [MA.er] at e; subst e; exact ⟨t, _, ht, hu', rfl⟩
theorem cell_of {i : Nat} {p : List Nat} {t s : MA} (st : St K ct B F σ τ H) (ht : τ[i]? = some (some t)) (hs : t.sub p = some s) : ∀ c ∈ s.cells, H c.1 = some c.2 := fun c hc => by
  obtain ⟨R, h1, _⟩ := cellsE_set ht
  obtain ⟨R', k1, _⟩ := put_cells hs
  exact (st.wf.own c (List.mem_append_left _ (h1.symm.subset (List.mem_append_left _ (k1.symm.subset (List.mem_append_left _ hc)))))).1
theorem k_fld {k : SK} {f : Str} {Q : L2.VK} (h : TKf K ct (kFld k f) σ H Q) : L2.tFld K (TKf K ct k) f σ H Q := by
  obtain ⟨B, F, τ, st, pv, e, q⟩ := h
  unfold kFld at e
  cases hk : k (erE τ) with
  | none => simp [hk] at e
  | some w =>
    refine ⟨B, F, τ, st, w, hk, fun v hv => ?_⟩
    rw [hk] at e
    cases w with
    | val x =>
      cases x with
      | obj c ns xs =>
        simp only at e
        unfold PVr RepD at hv
        obtain ⟨a, C, dx, vs, rfl, oc, hB, hl, hr⟩ := hv
        cases hj : fIx ns f with
        | none => simp [hj] at e
        | some j =>
          rw [hj] at e
          cases hx : xs[j]? with
          | none => simp [hx] at e
          | some y =>
            simp [hx] at e; subst e
            obtain ⟨u, hu, ru⟩ := hr.get hx
            have hf : f ∈ ns := by
              unfold fIx at hj
              have hlt : j < ns.length := by rw [hl]; exact lt_of_some hx
              have := (List.findIdx?_eq_some_iff_getElem.mp hj)
              obtain ⟨h1, h2, _⟩ := this
              have e2 : ns[j] = f := by simpa using h2
              rw [← e2]; exact List.getElem_mem _
            exact ⟨a, C, dx, ns.zip vs, u, rfl, st.wf.sub _ _ hB, oc.cls, oc.na f hf, fIx_lookup hj hu, q u ru⟩
      | _ => simp at e
    | «at» i p =>
      simp only at e
      obtain ⟨t, s, ht, hs, hv⟩ := hv
      rw [at_erE ht hs] at e
      cases s with
      | d y u =>
        exfalso
        have o := ok_sub hs (st.ok i t ht)
        cases y with
        | obj c ns xs =>
          simp only [MA.er] at e
          simp at e
        | _ => simp [MA.er] at e
      | lst a ts => simp [MA.er] at e
      | obj c C dx a ns ts =>
        simp only [MA.er] at e
        have o := ok_sub hs (st.ok i t ht)
        unfold MA.ok at o
        cases hj : fIx ns f with
        | none => simp [hj] at e
        | some j =>
          rw [hj] at e
          have hjl : j < ns.length ∧ ns[j]? = some f := by
            unfold fIx at hj
            obtain ⟨h1, h2, _⟩ := List.findIdx?_eq_some_iff_getElem.mp hj
            have e2 : ns[j] = f := by simpa using h2
            exact ⟨h1, by rw [List.getElem?_eq_getElem h1, e2]⟩
          have hu : ts[j]? = some (ts[j]'(by rw [← o.2.1]; exact hjl.1)) := List.getElem?_eq_getElem _
          have hv2 : V.ref a = v := hv
          subst hv2
          refine ⟨a, C, dx, ns.zip (ts.map MA.val), _, rfl, cell_of st ht hs (a, _) (by simp [MA.cells]), o.1.cls, o.1.na f (List.mem_of_getElem? hjl.2), fIx_lookup hj (by rw [List.getElem?_map, hu]; rfl), q _ ?_⟩
          exact kid_ok st ht hs (by simp only [MA.kids]; exact hu) e
theorem k_idx {k : SK} {qi : SP} {Q : L2.VK} (h : TKf K ct (kIdx k qi) σ H Q) : L2.tOp (fun x y H Q => L2.rIxL K x y H Q ∨ L2.rIxT K x y H Q) (TKf K ct k) (TPf K ct qi) σ H Q := by
  obtain ⟨B, F, τ, st, pv, e, q⟩ := h
  unfold kIdx at e
  cases hk : k (erE τ) with
  | none => simp [hk] at e
  | some w =>
    refine ⟨B, F, τ, st, w, hk, fun v hv => ?_⟩
    rw [hk] at e
    cases w with
    | val x =>
      simp only at e
      cases hq : qi (erE τ) with
      | none => simp [hq] at e
      | some y =>
        rw [hq] at e
        refine ⟨B, F, τ, st, y, hq, fun u hu => ?_⟩
        cases y with
        | int n =>
          simp only at e
          unfold RepD at hu; subst hu
          cases x with
          | tup xs =>
            unfold PVr RepD at hv
            obtain ⟨a, vs, rfl, hs, hr⟩ := hv
            simp only [D.ix] at e
            cases hx : L2.atI xs n with
            | none => simp [hx] at e
            | some y =>
              simp [hx] at e; subst e
              unfold L2.atI at hx
              rw [hr.length] at hx
              cases hj : L2.ixN vs.length n with
              | none => simp [hj] at hx
              | some j =>
                rw [hj] at hx
                obtain ⟨u, hu, ru⟩ := hr.get (show xs[j]? = some y from hx)
                exact .inr ⟨a, vs, n, u, rfl, rfl, (hs.mono st.wf.sub).sq, by unfold L2.atI; rw [hj]; exact hu, q u ru⟩
          | lst xs =>
            unfold PVr RepD at hv
            obtain ⟨a, vs, rfl, hs, hr⟩ := hv
            simp only [D.ix] at e
            cases hx : L2.atI xs n with
            | none => simp [hx] at e
            | some y =>
              simp [hx] at e; subst e
              unfold L2.atI at hx
              rw [hr.length] at hx
              cases hj : L2.ixN vs.length n with
              | none => simp [hj] at hx
              | some j =>
                rw [hj] at hx
                obtain ⟨u, hu, ru⟩ := hr.get (show xs[j]? = some y from hx)
                exact .inl ⟨a, vs, n, u, rfl, rfl, SqL.of (st.wf.sub _ _ hs), by unfold L2.atI; rw [hj]; exact hu, q u ru⟩
          | frl xs =>
            unfold PVr RepD at hv
            obtain ⟨a, vs, rfl, hs, hr⟩ := hv
            simp only [D.ix] at e
            cases hx : L2.atI xs n with
            | none => simp [hx] at e
            | some y =>
              simp [hx] at e; subst e
              unfold L2.atI at hx
              rw [hr.length] at hx
              cases hj : L2.ixN vs.length n with
              | none => simp [hj] at hx
              | some j =>
                rw [hj] at hx
                obtain ⟨u, hu, ru⟩ := hr.get (show xs[j]? = some y from hx)
                exact .inl ⟨a, vs, n, u, rfl, rfl, st.wf.sub.seq hs, by unfold L2.atI; rw [hj]; exact hu, q u ru⟩
          | _ => simp [D.ix] at e
        | _ => simp at e
    | «at» i p =>
      simp only at e
      obtain ⟨t, s, ht, hs, hv⟩ := hv
      rw [at_erE ht hs] at e
      cases s with
      | d y u => simp [MA.er] at e
      | obj c C dx a ns ts => simp [MA.er] at e
      | lst a ts =>
        simp only [MA.er] at e
        cases hq : qi (erE τ) with
        | none => simp [hq] at e
        | some y =>
          rw [hq] at e
          refine ⟨B, F, τ, st, y, hq, fun u hu => ?_⟩
          cases y with
          | int n =>
            simp only at e
            unfold RepD at hu; subst hu
            have hv2 : V.ref a = v := hv
            subst hv2
            rw [ers_map, List.length_map] at e
            cases hj : L2.ixN ts.length n with
            | none => simp [hj] at e
            | some j =>
              rw [hj] at e
              have hjl := (L2.ixN_seq hj).2.1
              have hu : ts[j]? = some ts[j] := List.getElem?_eq_getElem hjl
              refine .inl ⟨a, ts.map MA.val, n, ts[j].val, rfl, rfl, .inl (.inl (cell_of st ht hs (a, _) (by simp [MA.cells]))), ?_, q _ ?_⟩
              · unfold L2.atI
                rw [List.length_map, hj]
                show (ts.map MA.val)[j]? = _
                rw [List.getElem?_map, hu]; rfl
              · exact kid_ok st ht hs (by simp only [MA.kids]; exact hu) e
          | _ => simp at e
theorem p_of {k : SK} {Q : L2.VK} (h : TPf K ct (pOf k) σ H Q) : TKf K ct k σ H Q := by
  obtain ⟨B, F, τ, st, x, e, q⟩ := h
  unfold pOf at e
  cases hk : k (erE τ) with
  | none => simp [hk] at e
  | some w =>
    rw [hk] at e
    cases w with
    | val y => simp at e; subst e; exact ⟨B, F, τ, st, _, hk, fun v hv => q v hv⟩
    | «at» i p => simp at e
/-- an expression that is pure -/
theorem e_pure {qp : SP} {Q : L2.VK} (h : TEf K ct (cP qp) σ H Q) : TPf K ct qp σ H Q := by
  obtain ⟨B, F, τ, st, m, e', e, q⟩ := h
  unfold cP at e
  cases hk : qp (erE τ) with
  | none => simp [hk] at e
  | some x =>
    simp [hk] at e
    obtain ⟨rfl, rfl⟩ := e
    exact ⟨B, F, τ, st, x, hk, fun v hv => q v H B _ τ (aft_d st hv)⟩
/-- a look as a value -/
theorem e_look {k : SK} {Q : L2.VK} (h : TEf K ct (cK k) σ H Q) : TKf K ct k σ H Q := by
  obtain ⟨B, F, τ, st, m, e', e, q⟩ := h
  unfold cK at e
  cases hk : k (erE τ) with
  | none => simp [hk] at e
  | some w =>
    rw [hk] at e
    cases w with
    | val x =>
      simp at e
      obtain ⟨rfl, rfl⟩ := e
      exact ⟨B, F, τ, st, _, hk, fun v hv => q v H B _ τ (aft_d st hv)⟩
    | «at» i p =>
      simp only at e
      refine ⟨B, F, τ, st, _, hk, fun v hv => ?_⟩
      obtain ⟨t, s, ht, hs, hv⟩ := hv
      rw [at_erE ht hs] at e
      simp at e
      obtain ⟨rfl, rfl⟩ := e
      obtain ⟨B', st', sb, r⟩ := st.give ht hs
      obtain ⟨a1, a2, a3, a4, a5, a6⟩ := aft_d st' r
      refine q v H B' _ _ ⟨a1, a2, sb, ?_, a5, hv ▸ a6⟩
      have := putAt_erE (s' := .d s.er.fz s.val) ht hs
      simp only [MA.er] at this
      exact this.symm
end
end Ev
set_option Elab.async false
set_option linter.all false
set_option maxRecDepth 100000
set_option maxHeartbeats 1000000
/-! Operators and built-in functions, by values. -/
namespace Ev
open PySem PySem.Spec PyProof.Rows
open L2 (V HO Hp SqL SqT Same upd upd_same upd_ne Cx PE PT PA OpR CallR Inv RelV Vals VK)

section
variable (K : PySem.W.Frag) (ct : Str → Option Addr)
/-- data that may be read: shared, or a container of shared data that somebody owns -/
def RdD (B H : Hp) (d : D) (v : V) : Prop := RepD K ct B d v ∨ ∃ a xs ds, d = .lst ds ∧ v = .ref a ∧ H a = some (.lst xs) ∧ RepDs K ct B ds xs
def RdDs (B H : Hp) : List D → List V → Prop
  | [], vs => vs = []
  | d :: ds, vs => ∃ v r, vs = v :: r ∧ RdD K ct B H d v ∧ RdDs B H ds r
end
section
variable {K : PySem.W.Frag} {ct : Str → Option Addr} {B H : Hp}
theorem RepDs.rd : ∀ {ds : List D} {vs : List V}, RepDs K ct B ds vs → RdDs K ct B H ds vs
  | [], _, h => by unfold RepDs at h; exact h
  | d :: ds, vs, h => by
    unfold RepDs at h
    obtain ⟨v, r, e, h1, h2⟩ := h
    exact ⟨v, r, e, .inl h1, RepDs.rd h2⟩
theorem rd_one {d : D} {v : V} (h : RdD K ct B H d v) : RdDs K ct B H [d] [v] := ⟨v, [], rfl, h, rfl⟩
theorem rd_un {d : D} {vs : List V} (h : RdDs K ct B H [d] vs) : ∃ v, vs = [v] ∧ RdD K ct B H d v := by
  obtain ⟨v, r, e, h1, h2⟩ := h
  have h2 : r = [] := h2
  subst h2
  exact ⟨v, e, h1⟩
theorem rd_items {d : D} {v : V} {ds : List D} (sb : Same B H) (h : RdD K ct B H d v) (e : d.items = some ds) : ∃ a vs, v = .ref a ∧ RepDs K ct B ds vs ∧ (SqL K H a vs ∨ SqT K H a vs) := by
  rcases h with h | ⟨a, xs, es, rfl, rfl, hH, r⟩
  · cases d with
    | tup xs =>
      simp [D.items] at e; subst e
      unfold RepD at h
      obtain ⟨a, vs, e, h1, h2⟩ := h
      exact ⟨a, vs, e, h2, .inr (h1.mono sb).sq⟩
    | lst xs =>
      simp [D.items] at e; subst e
      unfold RepD at h
      obtain ⟨a, vs, e, h1, h2⟩ := h
      exact ⟨a, vs, e, h2, .inl (SqL.of (sb _ _ h1))⟩
    | frl xs =>
      simp [D.items] at e; subst e
      unfold RepD at h
      obtain ⟨a, vs, e, h1, h2⟩ := h
      exact ⟨a, vs, e, h2, .inl (sb.seq h1)⟩
    | _ => simp [D.items] at e
  · simp [D.items] at e; subst e
    exact ⟨a, xs, rfl, r, .inl (SqL.of hH)⟩
mutual
theorem repD_dp (sb : Same B H) : ∀ {d : D} {v : V} {p : PyData}, RepD K ct B d v → d.py = some p → L2.Dp K H v p
  | .non, v, p, h, e => by unfold RepD at h; simp [D.py] at e; subst h e; exact .non
  | .bl b, v, p, h, e => by unfold RepD at h; simp [D.py] at e; subst h e; exact .bl b
  | .int i, v, p, h, e => by unfold RepD at h; simp [D.py] at e; subst h e; exact .int i
  | .str x, v, p, h, e => by unfold RepD at h; simp [D.py] at e; subst h e; exact .str x
  | .tup xs, v, p, h, e => by
    unfold RepD at h
    obtain ⟨a, vs, rfl, h1, h2⟩ := h
    unfold D.py at e
    cases q : D.pys xs with
    | none => simp [q] at e
    | some ys => simp [q] at e; subst e; exact .tup (h1.mono sb).sq (repDs_dp sb h2 q)
  | .lst xs, v, p, h, e => by
    unfold RepD at h
    obtain ⟨a, vs, rfl, h1, h2⟩ := h
    unfold D.py at e
    cases q : D.pys xs with
    | none => simp [q] at e
    | some ys => simp [q] at e; subst e; exact .lst (SqL.of (sb _ _ h1)) (repDs_dp sb h2 q)
  | .obj _ _ _, v, p, h, e => by simp [D.py] at e
  | .frl _, v, p, h, e => by simp [D.py] at e
theorem repDs_dp (sb : Same B H) : ∀ {ds : List D} {vs : List V} {ps : List PyData}, RepDs K ct B ds vs → D.pys ds = some ps → L2.DpAll K H vs ps
  | [], vs, ps, h, e => by unfold RepDs at h; simp [D.pys] at e; subst h e; exact .nil
  | d :: ds, vs, ps, h, e => by
    unfold RepDs at h
    obtain ⟨v, r, rfl, h1, h2⟩ := h
    unfold D.pys at e
    cases q : d.py with
    | none => simp [q] at e
    | some y =>
      cases q2 : D.pys ds with
      | none => simp [q, q2] at e
      | some ys => simp [q, q2] at e; subst e; exact .cons (repD_dp sb h1 q) (repDs_dp sb h2 q2)
end
theorem rd_dp {d : D} {v : V} {p : PyData} (sb : Same B H) (h : RdD K ct B H d v) (e : d.py = some p) : L2.Dp K H v p := by
  rcases h with h | ⟨a, xs, es, rfl, rfl, hH, r⟩
  · exact repD_dp sb h e
  · unfold D.py at e
    cases q : D.pys es with
    | none => simp [q] at e
    | some ys => simp [q] at e; subst e; exact .lst (SqL.of hH) (repDs_dp sb r q)
theorem pys_len : ∀ {ds : List D} {ps : List PyData}, D.pys ds = some ps → ds.length = ps.length
  | [], ps, e => by simp [D.pys] at e; subst e; rfl
  | d :: ds, ps, e => by
    unfold D.pys at e
    cases q : d.py with
    | none => simp [q] at e
    | some y =>
      cases q2 : D.pys ds with
      | none => simp [q, q2] at e
      | some ys => simp [q, q2] at e; subst e; simp [pys_len q2]
theorem pys_get : ∀ {ds : List D} {ps : List PyData} {i : Nat} {p : PyData}, D.pys ds = some ps → ps[i]? = some p → ∃ d, ds[i]? = some d ∧ d.py = some p
  | [], ps, i, p, e, h => by simp [D.pys] at e; subst e; simp at h
  | d :: ds, ps, i, p, e, h => by
    unfold D.pys at e
    cases q : d.py with
    | none => simp [q] at e
    | some y =>
      cases q2 : D.pys ds with
      | none => simp [q, q2] at e
      | some ys =>
        simp [q, q2] at e; subst e
        cases i with
        | zero => simp at h; subst h; exact ⟨d, rfl, q⟩
        | succ i => obtain ⟨d', h1, h2⟩ := pys_get (i := i) q2 (by simpa using h); exact ⟨d', by simpa using h1, h2⟩
mutual
theorem ofPy_py : ∀ {d : D} {p : PyData}, d.py = some p → ofPy p = d
  | .non, p, e => by simp [D.py] at e; subst e; simp [ofPy]
  | .bl b, p, e => by simp [D.py] at e; subst e; simp [ofPy]
  | .int i, p, e => by simp [D.py] at e; subst e; simp [ofPy]
  | .str x, p, e => by simp [D.py] at e; subst e; simp [ofPy]
  | .tup xs, p, e => by
    unfold D.py at e
    cases q : D.pys xs with
    | none => simp [q] at e
    | some ys => simp [q] at e; subst e; simp [ofPy, ofPys_pys q]
  | .lst xs, p, e => by
    unfold D.py at e
    cases q : D.pys xs with
    | none => simp [q] at e
    | some ys => simp [q] at e; subst e; simp [ofPy, ofPys_pys q]
  | .obj _ _ _, p, e => by simp [D.py] at e
  | .frl _, p, e => by simp [D.py] at e
theorem ofPys_pys : ∀ {ds : List D} {ps : List PyData}, D.pys ds = some ps → ofPys ps = ds
  | [], ps, e => by simp [D.pys] at e; subst e; simp [ofPys]
  | d :: ds, ps, e => by
    unfold D.pys at e
    cases q : d.py with
    | none => simp [q] at e
    | some y =>
      cases q2 : D.pys ds with
      | none => simp [q, q2] at e
      | some ys => simp [q, q2] at e; subst e; simp [ofPys, ofPy_py q, ofPys_pys q2]
end
theorem asInts_map : ∀ {ds : List D} {is : List Int}, asInts ds = some is → ds = is.map .int
  | [], is, e => by simp [asInts] at e; subst e; rfl
  | .int i :: ds, is, e => by
    unfold asInts at e
    cases q : asInts ds with
    | none => simp [q] at e
    | some js => simp [q] at e; subst e; simp [asInts_map q]
  | .non :: _, _, e => by simp [asInts] at e
  | .bl _ :: _, _, e => by simp [asInts] at e
  | .str _ :: _, _, e => by simp [asInts] at e
  | .tup _ :: _, _, e => by simp [asInts] at e
  | .lst _ :: _, _, e => by simp [asInts] at e
  | .frl _ :: _, _, e => by simp [asInts] at e
  | .obj _ _ _ :: _, _, e => by simp [asInts] at e
theorem RepDs.ints_inv : ∀ {is : List Int} {vs : List V}, RepDs K ct B (is.map .int) vs → vs = is.map .int
  | [], _, h => by unfold RepDs at h; exact h
  | i :: is, vs, h => by
    unfold RepDs at h
    obtain ⟨v, r, e, h1, h2⟩ := h
    unfold RepD at h1
    subst e h1
    rw [RepDs.ints_inv h2]; rfl
/-- a list of new items -/
theorem new_lst {ds : List D} {vs : List V} {p : Addr} (r : RepDs K ct B ds vs) (hp : H p = none) : NewM K ct B H (.lst (ds.map .d)) (.ref p) (upd H p (.lst vs)) := ⟨p, ds, vs, rfl, rfl, hp, rfl, r⟩
theorem new_tup {ds : List D} {vs : List V} {p : Addr} {its : List Value} (r : RepDs K ct B ds vs) (hp : H p = none) : NewM K ct B H (.d (.tup ds)) (.ref p) (upd H p (HOt its vs)) := .inr ⟨p, ds, vs, its, rfl, rfl, hp, rfl, r⟩
theorem new_d {d : D} {v : V} (r : RepD K ct B d v) : NewM K ct B H (.d d) v H := .inl ⟨rfl, r⟩
theorem rep_int {i : Int} : RepD K ct B (.int i) (.int i) := by unfold RepD; rfl
theorem rep_bl {b : Bool} : RepD K ct B (.bl b) (.bl b) := by unfold RepD; rfl
theorem rep_non : RepD K ct B .non .non := by unfold RepD; rfl
end

section
variable {X : Cx} {ct : Str → Option Addr}
/-- an operator upon two shared data -/
def rOp (K : PySem.W.Frag) (ct : Str → Option Addr) (f : D → D → Option M) : L2.R2 := fun x y H Q => ∃ B a b m, Same B H ∧ RepD K ct B a x ∧ RepD K ct B b y ∧ f a b = some m ∧ ∀ v H', NewM K ct B H m v H' → Q v H'
theorem mulW {a b : Int} (h : MulOk a b) : L2.CMul a b ∨ L2.CMulW a b := by
  rcases h with h | h | ⟨h1, h2⟩
  · exact .inl (.inl (by omega))
  · exact .inl (.inr (by omega))
  · exact .inr (L2.wide_mul h1 h2 (by omega) (by omega) (by omega))
theorem opr_int (op : Operator) {pins : List (Addr × Obj)} {s : Shared} {σ : L2.St} {H : Hp} {i j k : Int} {t u : Tok} {Q : VK} (I : Inv X pins σ H s) (e : binI op i j = some k) (q : Q (.int k) H) :
    wpAny (model X.prog X.w) X.A (binaryOp op (.int i t) (.int j u)) (L2.EP X pins σ Q) X.xe s := by
  have ri : RelV (.int i) (.int i t) := ⟨t, rfl⟩
  have rj : RelV (.int j) (.int j u) := ⟨u, rfl⟩
  cases op with
  | Add => simp [binI] at e; subst e; exact L2.op_add pins s σ H _ _ _ _ Q I ri rj ⟨i, j, rfl, rfl, q⟩
  | Sub => simp [binI] at e; subst e; exact L2.op_sub pins s σ H _ _ _ _ Q I ri rj ⟨i, j, rfl, rfl, q⟩
  | Mult =>
    simp only [binI] at e
    split at e
    · rename_i h
      simp only [Option.some.injEq] at e; subst e
      rcases mulW h with h | h
      · exact L2.op_mul pins s σ H _ _ _ _ Q I ri rj ⟨i, j, rfl, rfl, h, q⟩
      · exact L2.op_mulW pins s σ H _ _ _ _ Q I ri rj ⟨i, j, rfl, rfl, h, q⟩
    · cases e
  | FloorDiv =>
    simp only [binI] at e
    split at e
    · rename_i h
      simp only [Option.some.injEq] at e; subst e
      exact L2.op_fdivW pins s σ H _ _ _ _ Q I ri rj ⟨i, j, rfl, rfl, L2.wide_div h.1 h.2 (by omega) (by omega), q⟩
    · cases e
  | Mod =>
    simp only [binI] at e
    split at e
    · rename_i h
      simp only [Option.some.injEq] at e; subst e
      exact L2.op_mod pins s σ H _ _ _ _ Q I ri rj ⟨i, j, rfl, rfl, h, q⟩
    · cases e
  | Pow =>
    simp only [binI] at e
    split at e
    · rename_i h
      simp only [Option.some.injEq] at e; subst e
      exact L2.op_pow pins s σ H _ _ _ _ Q I ri rj ⟨i, j, rfl, rfl, h, q⟩
    · cases e
  | LShift =>
    simp only [binI] at e
    split at e
    · rename_i h
      simp only [Option.some.injEq] at e; subst e
      exact L2.op_shl pins s σ H _ _ _ _ Q I ri rj ⟨i, j, rfl, rfl, h, q⟩
    · cases e
  | RShift =>
    simp only [binI] at e
    split at e
    · rename_i h
      simp only [Option.some.injEq] at e; subst e
      exact L2.op_shr pins s σ H _ _ _ _ Q I ri rj ⟨i, j, rfl, rfl, h, q⟩
    · cases e
  | BitAnd => simp [binI] at e; subst e; exact L2.op_and pins s σ H _ _ _ _ Q I ri rj ⟨i, j, rfl, rfl, q⟩
  | BitOr => simp [binI] at e; subst e; exact L2.op_or pins s σ H _ _ _ _ Q I ri rj ⟨i, j, rfl, rfl, q⟩
  | BitXor => simp [binI] at e; subst e; exact L2.op_xor pins s σ H _ _ _ _ Q I ri rj ⟨i, j, rfl, rfl, q⟩
  | MatMult => simp [binI] at e
  | Div => simp [binI] at e
theorem line_eq : sizeLine = line := by rw [sizeLine_eq]; rfl
/-- a new tuple laid -/
theorem tup_laid {pins : List (Addr × Obj)} {s : Shared} {σ : L2.St} {H : Hp} {vs : List V} {its : List Value} {t' : Nat} (I : Inv X pins σ H s) (r : Vals vs its) (hz : vs.length ≤ sizeLine) :
    Inv X pins σ (upd H s.heap.objs.size (HOt its vs)) { s with heap := s.heap.push (mkT its), toks := t' } :=
  I.laid (fun b u e => Heap.get?_push_of_some _ e) (Nat.le_refl _) ⟨Heap.get?_push_size _ rfl, hz, its, r, _, Heap.get?_push_size _ rfl, rfl, _, rfl⟩
theorem tup_cat {pins : List (Addr × Obj)} {s : Shared} {σ : L2.St} {H : Hp} {a b : Addr} {xs ys : List V} {Q : VK} (I : Inv X pins σ H s) (ha : SqT X.K H a xs) (hb : SqT X.K H b ys) (hz : xs.length + ys.length ≤ sizeLine)
    (q0 : xs = [] → Q (.ref b) H) (q1 : ys = [] → Q (.ref a) H) (q2 : ∀ p its, H p = none → Q (.ref p) (upd H p (HOt its (xs ++ ys)))) :
    wpAny (model X.prog X.w) X.A (binaryOp .Add (.ref a) (.ref b)) (L2.EP X pins σ Q) X.xe s := by
  obtain ⟨us, ru, pa, _⟩ := I.tuple ha
  obtain ⟨ws, rw', pb, _⟩ := I.tuple hb
  have lu := ru.length
  have lw := rw'.length
  by_cases hx : xs = []
  · have : us = [] := List.eq_nil_of_length_eq_zero (by rw [← lu, hx]; rfl)
    subst this
    exact L2.cat_tup0 pa pb ⟨.ref b, H, I, rfl, q0 hx⟩
  · refine HT.cat_tup pa pb (fun z => hx (List.eq_nil_of_length_eq_zero (by rw [lu, z]; rfl))) (fun z => ⟨.ref a, H, I, rfl, q1 (List.eq_nil_of_length_eq_zero (by rw [lw, z]; rfl))⟩) (fun _ => ?_) (by omega)
    exact ⟨V.ref s.heap.objs.size, _, tup_laid (t' := s.toks) I (ru.append rw') (by rw [List.length_append]; exact hz), rfl, q2 _ _ (I.hok.fresh (Nat.le_refl _))⟩
theorem tup_rep {pins : List (Addr × Obj)} {s : Shared} {σ : L2.St} {H : Hp} {l : Addr} {xs : List V} {k : Int} {t : Tok} {Q : VK} (I : Inv X pins σ H s) (hT : SqT X.K H l xs) (hne : xs ≠ []) (k1 : 2 ≤ k) (k2 : k ≤ 1000) (hz : xs.length ≤ 1000)
    (q : ∀ p its, H p = none → Q (.ref p) (upd H p (HOt its (List.replicate k.toNat xs).flatten))) : wpAny (model X.prog X.w) X.A (binaryOp .Mult (.ref l) (.int k t)) (L2.EP X pins σ Q) X.xe s := by
  obtain ⟨us, ru, ⟨⟨cls, dd, data, sl⟩, ho, hc, n, hd⟩, _⟩ := I.tuple hT
  simp only at hc hd
  subst hc hd
  have lu : us.length = xs.length := ru.length.symm
  have hem : us.toArray.isEmpty = false := by
    cases us with
    | nil => exact absurd (List.eq_nil_of_length_eq_zero lu.symm) hne
    | cons a b => rfl
  have hsize : us.toArray.size = xs.length := by rw [List.size_toArray, lu]
  have hprod : ((us.toArray.size : Nat) : Int) * k ≤ 1000000 := by
    rw [hsize]
    have := Int.mul_le_mul_of_nonneg_right (a := (xs.length : Int)) (b := 1000) (c := k) (by omega) (by omega)
    omega
  have hflat : (List.replicate k.toNat us).flatten.length ≤ 1000000 := by
    rw [PyProof.Rows.lm_len_rep_flat, lu]
    exact Nat.mul_le_mul (show k.toNat ≤ 1000 by omega) hz
  have hb0 : (decide (k < -(2 ^ 63)) || decide (k ≥ 2 ^ 63)) = false := by simp; omega
  have hb1 : (us.toArray.isEmpty || k == 1) = false := by rw [hem]; simp; omega
  have hb2 : (decide (k ≤ 0) || us.toArray.isEmpty) = false := by rw [hem]; simp; omega
  have hb4 : Builtin.Tuple.tupleTooMany (((us.toArray.size : Nat) : Int) * k) = false := by
    unfold Builtin.Tuple.tupleTooMany
    rw [sizeLine_eq]
    simp only [decide_eq_false_iff_not]
    omega
  have hs : sizeLine = 16777216 := sizeLine_eq
  refine wpAny_binaryOp_repeat_ref (T := "tuple") (U := "int") (by decide) ⟨_, ho, rfl⟩ (fun s' => typeIs_int s' k t) L2.noFill_tuple_mul F.fills_int_mul F.slot_int_rmul L2.repeat_tuple F.slot_int_index.lookup
    (call_meets F.slot_int_rmul (typeIs_int s k t) F.entry_int_rmul (F.args_int_rmul_2 _ _) (L2.int_rmul_tuple k t l us.toArray n dd sl)
      ⟨ho, rfl, ⟨_, ho, rfl⟩, call_meets F.slot_tuple_mul ⟨_, ho, rfl⟩ F.entry_tuple_mul (F.args_tuple_mul_2 _ _) (L2.tuple_mulW l us.toArray n dd sl k t hb0 hb1 hb2 (by omega) hb4 (by rw [L2.size_rep, List.size_toArray]; omega)) ⟨ho, ?_⟩⟩)
  rw [L2.size_rep]
  exact ⟨V.ref s.heap.objs.size, _, tup_laid (t' := s.toks) I (ru.rep k.toNat) (by rw [← (ru.rep k.toNat).length] at hflat; omega), rfl, q _ _ (I.hok.fresh (Nat.le_refl _))⟩
theorem tuple_mul1 (l : Addr) (items : Array Value) (n : Nat) (dd : Option Addr) (sl : Array (Option Value)) (x : Int) (u : Tok) (c0 : (decide (x < -(2 ^ 63)) || decide (x ≥ 2 ^ 63)) = false) (c1 : (items.isEmpty || x == 1) = true) :
    Meets (Builtin.«tuple.__mul__» ⟨[.ref l, .int x u], []⟩) (fun _ R s => s.heap.get? l = some { cls := .type "tuple", dict := dd, data := .seq items n, slots := sl } ∧
      R (.ok (.ret (Value.ref l))) s) :=
  .of_wp fun prog w A R s h => by
    obtain ⟨hp, g, d, tk, os⟩ := s
    obtain ⟨hl, h⟩ := h
    have f1 := AutoSeq1.idx_int
    wp_walk using wpAny_loadPart' hl
    repeat (first
      | (refine wpAny_ite_false (decide_eq_false (by rw [c0]; exact Bool.false_ne_true)) ?_; wp_walk using wpAny_loadPart' hl)
      | (refine wpAny_ite_true (decide_eq_true (by rw [c1])) ?_; wp_walk using wpAny_loadPart' hl))
    exact ⟨_, rfl, h⟩
theorem tup_rep1 {pins : List (Addr × Obj)} {s : Shared} {σ : L2.St} {H : Hp} {l : Addr} {xs : List V} {t : Tok} {Q : VK} (I : Inv X pins σ H s) (hT : SqT X.K H l xs) (q : Q (.ref l) H) : wpAny (model X.prog X.w) X.A (binaryOp .Mult (.ref l) (.int 1 t)) (L2.EP X pins σ Q) X.xe s := by
  obtain ⟨us, ru, ⟨⟨cls, dd, data, sl⟩, ho, hc, n, hd⟩, _⟩ := I.tuple hT
  simp only at hc hd
  subst hc hd
  have hb0 : (decide ((1 : Int) < -(2 ^ 63)) || decide ((1 : Int) ≥ 2 ^ 63)) = false := by decide
  have hb1 : (us.toArray.isEmpty || (1 : Int) == 1) = true := by simp
  exact wpAny_binaryOp_repeat_ref (T := "tuple") (U := "int") (by decide) ⟨_, ho, rfl⟩ (fun s' => typeIs_int s' 1 t) L2.noFill_tuple_mul F.fills_int_mul F.slot_int_rmul L2.repeat_tuple F.slot_int_index.lookup
    (call_meets F.slot_int_rmul (typeIs_int s 1 t) F.entry_int_rmul (F.args_int_rmul_2 _ _) (L2.int_rmul_tuple 1 t l us.toArray n dd sl)
      ⟨ho, rfl, ⟨_, ho, rfl⟩, call_meets F.slot_tuple_mul ⟨_, ho, rfl⟩ F.entry_tuple_mul (F.args_tuple_mul_2 _ _) (tuple_mul1 l us.toArray n dd sl 1 t hb0 hb1) ⟨ho, V.ref l, H, I, rfl, q⟩⟩)
theorem opr_bin (op : Operator) : OpR X (binaryOp op) (rOp X.K ct (binV op)) := by
  intro pins s σ H x y v u Q I rx ry h
  obtain ⟨B, a, b, m, sb, ha, hb, e, q⟩ := h
  unfold binV at e
  split at e
  · rename_i i j
    unfold RepD at ha hb
    subst ha hb
    cases hk : binI op i j with
    | none => simp [hk] at e
    | some k =>
      simp [hk] at e; subst e
      obtain ⟨t, rfl⟩ := rx
      obtain ⟨t', rfl⟩ := ry
      exact opr_int op I hk (q _ _ (new_d rep_int))
  · rename_i xs ys
    cases op <;> try (simp at e; done)
    simp only at e
    split at e
    · rename_i hle
      simp only [Option.some.injEq] at e; subst e
      unfold RepD at ha hb
      obtain ⟨p1, vs1, rfl, h1, r1⟩ := ha
      obtain ⟨p2, vs2, rfl, h2, r2⟩ := hb
      refine L2.op_cat pins s σ H _ _ _ _ Q I rx ry ⟨p1, p2, vs1, vs2, rfl, rfl, sb _ _ h1, sb _ _ h2, by rw [line_eq, ← r1.length, ← r2.length]; exact hle, fun p hp => ?_⟩
      have := q (.ref p) _ (new_lst (r1.app r2) hp)
      exact this
    · cases e
  · rename_i xs ys
    cases op <;> try (simp at e; done)
    simp only at e
    split at e
    · rename_i hle
      simp only [Option.some.injEq] at e; subst e
      unfold RepD at ha hb
      have ha0 : RepD X.K ct B (.tup xs) x := by unfold RepD; exact ha
      have hb0 : RepD X.K ct B (.tup ys) y := by unfold RepD; exact hb
      obtain ⟨p1, vs1, rfl, h1, r1⟩ := ha
      obtain ⟨p2, vs2, rfl, h2, r2⟩ := hb
      cases rx
      cases ry
      refine tup_cat I (h1.mono sb).sq (h2.mono sb).sq (by rw [line_eq, ← r1.length, ← r2.length]; exact hle) (fun e1 => ?_) (fun e2 => ?_) fun p its hp => q _ _ (new_tup (r1.app r2) hp)
      · have : xs = [] := List.eq_nil_of_length_eq_zero (by rw [r1.length, e1]; rfl)
        subst this
        exact q _ _ (new_d (by simpa using hb0))
      · have : ys = [] := List.eq_nil_of_length_eq_zero (by rw [r2.length, e2]; rfl)
        subst this
        exact q _ _ (new_d (by simpa using ha0))
    · cases e
  · rename_i xs n
    cases op <;> try (simp at e; done)
    simp only at e
    split at e
    · rename_i hle
      simp only [Option.some.injEq] at e; subst e
      unfold RepD at ha hb
      obtain ⟨p1, vs1, rfl, h1, r1⟩ := ha
      subst hb
      have hl : (line : Nat) < 2 ^ 63 := by decide
      refine L2.op_rep pins s σ H _ _ _ _ Q I rx ry ⟨p1, n, vs1, rfl, rfl, sb _ _ h1, by omega, by omega, by rw [line_eq, ← r1.length]; exact hle.2, fun p hp => ?_⟩
      have := q (.ref p) _ (new_lst (r1.rep n.toNat) hp)
      exact this
    · cases e
  · rename_i xs n
    cases op <;> try (simp at e; done)
    simp only at e
    split at e
    · rename_i hle
      simp only [Option.some.injEq] at e; subst e
      unfold RepD at ha hb
      obtain ⟨p1, vs1, rfl, h1, r1⟩ := ha
      subst hb
      obtain ⟨t, rfl⟩ := ry
      cases rx
      exact tup_rep I (h1.mono sb).sq (fun z => hle.1 (List.eq_nil_of_length_eq_zero (by rw [r1.length, z]; rfl))) hle.2.1 hle.2.2.1 (by rw [← r1.length]; exact hle.2.2.2) fun p its hp => q _ _ (new_tup (r1.rep n.toNat) hp)
    · split at e
      · rename_i h1n
        simp only [Option.some.injEq] at e; subst e
        subst h1n
        have ha0 := ha
        unfold RepD at ha hb
        obtain ⟨p1, vs1, rfl, h1, r1⟩ := ha
        subst hb
        obtain ⟨t, rfl⟩ := ry
        cases rx
        exact tup_rep1 I (h1.mono sb).sq (q _ _ (new_d ha0))
      · cases e
  · cases e
end
end Ev
set_option Elab.async false
set_option linter.all false
set_option maxRecDepth 100000
set_option maxHeartbeats 1000000
/-! Comparisons, subscripts, built-in functions, by values. -/
namespace Ev
open PySem PySem.Spec PyProof.Rows
open L2 (V HO Hp SqL SqT Same upd upd_same upd_ne Cx PE PT PA OpR CallR MtR IxR SlR Inv RelV Vals VK)

section
variable {X : Cx} {ct : Str → Option Addr}
def rCm (K : PySem.W.Frag) (ct : Str → Option Addr) (op : CmpOp) : L2.R2 := fun x y H Q => ∃ B a b z, Same B H ∧ RepD K ct B a x ∧ RepD K ct B b y ∧ cmpD op a b = some z ∧ Q (.bl z) H
theorem okD_plain {p : PyData} (h : okD p = true) : p.plain = true ∧ p.depth ≤ 32 := by
  unfold okD at h
  simpa using h
theorem eqD_some {x y : D} {b : Bool} (h : eqD x y = some b) : ∃ p q, x.py = some p ∧ y.py = some q ∧ okD p = true ∧ okD q = true ∧ b = PyData.eqv p q := by
  unfold eqD at h
  split at h
  · rename_i p q e1 e2
    split at h
    · rename_i hk
      simp only [Option.some.injEq] at h
      simp only [Bool.and_eq_true] at hk
      exact ⟨p, q, e1, e2, hk.1, hk.2, h.symm⟩
    · cases h
  · cases h
theorem ltD_some {f : PyData → PyData → Bool} {x y : D} {b : Bool} (h : ltD f x y = some b) : ∃ p q, x.py = some p ∧ y.py = some q ∧ okD p = true ∧ okD q = true ∧ W.alike p q = true ∧ p ≠ .none ∧ b = f p q := by
  unfold ltD at h
  split at h
  · rename_i p q e1 e2
    split at h
    · rename_i hk
      simp only [Option.some.injEq] at h
      unfold okLt at hk
      simp only [Bool.and_eq_true] at hk
      exact ⟨p, q, e1, e2, hk.1.1.1, hk.1.1.2, hk.1.2, fun z => by rw [z] at hk; exact absurd hk.2 (by simp), h.symm⟩
    · cases h
  · cases h
theorem room_min {u a b : Nat} (hu : u + 64 < cLine) (ha : a ≤ 32) : u + min a b < cLine := by
  have : min a b ≤ a := Nat.min_le_left _ _
  omega
theorem reads_of {pins : List (Addr × Obj)} {s : Shared} {σ : L2.St} {B H : Hp} {d : D} {v : V} {u : Value} {p : PyData} (I : Inv X pins σ H s) (sb : Same B H) (h : RepD X.K ct B d v) (e : d.py = some p) (r : RelV v u) : ∃ as, Reads s.heap u p as :=
  L2.Dp.reads I p v u (repD_dp sb h e) r
theorem opr_cmp (op : CmpOp) (hu : X.A.units + 64 < cLine) : OpR X (compareOp op) (rCm X.K ct op) := by
  intro pins s σ H x y v u Q I rx ry h
  obtain ⟨B, a, b, z, sb, ha, hb, e, q⟩ := h
  have fin : ∀ {c : Bool}, c = z → L2.EP X pins σ Q (.bool c) s := fun {c} ec => ⟨.bl z, H, I, by rw [ec]; rfl, q⟩
  have lt : ∀ {f : PyData → PyData → Bool}, ltD f a b = some z → (∀ (p q : PyData) (as bs : List Addr), Reads s.heap v p as → Reads s.heap u q bs → W.alike p q = true → p ≠ .none → X.A.units + min p.depth q.depth < cLine → L2.EP X pins σ Q (.bool (f p q)) s → wpAny (model X.prog X.w) X.A (compareOp op v u) (L2.EP X pins σ Q) X.xe s) →
      wpAny (model X.prog X.w) X.A (compareOp op v u) (L2.EP X pins σ Q) X.xe s := fun {f} hl k => by
    obtain ⟨p, q', e1, e2, k1, k2, al, nn, ez⟩ := ltD_some hl
    obtain ⟨as, r1⟩ := reads_of I sb ha e1 rx
    obtain ⟨bs, r2⟩ := reads_of I sb hb e2 ry
    exact k p q' as bs r1 r2 al nn (room_min hu (okD_plain k1).2) (fin ez.symm)
  cases op with
  | Eq =>
    simp only [cmpD] at e
    obtain ⟨p, q', e1, e2, k1, k2, ez⟩ := eqD_some e
    obtain ⟨as, r1⟩ := reads_of I sb ha e1 rx
    obtain ⟨bs, r2⟩ := reads_of I sb hb e2 ry
    exact SeqAt.eq_plain r1 r2 (okD_plain k1).1 (okD_plain k2).1 (room_min hu (okD_plain k1).2) (fin ez.symm)
  | NotEq =>
    simp only [cmpD] at e
    cases h0 : eqD a b with
    | none => simp [h0] at e
    | some c =>
      simp only [h0, Option.some.injEq] at e
      obtain ⟨p, q', e1, e2, k1, k2, ez⟩ := eqD_some h0
      obtain ⟨as, r1⟩ := reads_of I sb ha e1 rx
      obtain ⟨bs, r2⟩ := reads_of I sb hb e2 ry
      exact SeqAt.ne_plain r1 r2 (okD_plain k1).1 (okD_plain k2).1 (room_min hu (okD_plain k1).2) (fin (by rw [← ez]; exact e))
  | Lt =>
    simp only [cmpD] at e
    split at e
    · rename_i i j
      unfold RepD at ha hb
      subst ha hb
      simp only [Option.some.injEq] at e
      exact L2.op_lt pins s σ H _ _ v u Q I rx ry ⟨i, j, rfl, rfl, (show Q (.bl (decide (i < j))) H by rw [e]; exact q)⟩
    · exact lt e fun p q' as bs r1 r2 al nn hh ff => PySem.W.lt_data r1 r2 al nn hh ff
  | LtE =>
    simp only [cmpD] at e
    split at e
    · rename_i i j
      unfold RepD at ha hb
      subst ha hb
      simp only [Option.some.injEq] at e
      exact L2.op_le pins s σ H _ _ v u Q I rx ry ⟨i, j, rfl, rfl, (show Q (.bl (decide (i ≤ j))) H by rw [e]; exact q)⟩
    · exact lt e fun p q' as bs r1 r2 al nn hh ff => PySem.W.le_data r1 r2 al nn hh ff
  | Gt =>
    simp only [cmpD] at e
    split at e
    · rename_i i j
      unfold RepD at ha hb
      subst ha hb
      simp only [Option.some.injEq] at e
      exact L2.op_gt pins s σ H _ _ v u Q I rx ry ⟨i, j, rfl, rfl, (show Q (.bl (decide (j < i))) H by rw [e]; exact q)⟩
    · exact lt e fun p q' as bs r1 r2 al nn hh ff => PySem.W.gt_data r1 r2 al nn hh ff
  | GtE =>
    simp only [cmpD] at e
    split at e
    · rename_i i j
      unfold RepD at ha hb
      subst ha hb
      simp only [Option.some.injEq] at e
      exact L2.op_ge pins s σ H _ _ v u Q I rx ry ⟨i, j, rfl, rfl, (show Q (.bl (decide (j ≤ i))) H by rw [e]; exact q)⟩
    · exact lt e fun p q' as bs r1 r2 al nn hh ff => PySem.W.ge_data r1 r2 al nn hh ff
  | Is =>
    simp only [cmpD] at e
    cases b with
    | non =>
      simp only [Option.some.injEq] at e
      unfold RepD at hb
      subst hb
      refine L2.op_isN pins s σ H _ _ v u Q I rx ry ⟨rfl, ?_⟩
      have : decide (x = V.non) = z := by
        subst e
        cases a with
        | non => unfold RepD at ha; subst ha; rfl
        | bl _ => unfold RepD at ha; subst ha; rfl
        | int _ => unfold RepD at ha; subst ha; rfl
        | str _ => unfold RepD at ha; subst ha; rfl
        | tup _ => unfold RepD at ha; obtain ⟨p, vs, e1, _⟩ := ha; subst e1; rfl
        | lst _ => unfold RepD at ha; obtain ⟨p, vs, e1, _⟩ := ha; subst e1; rfl
        | frl _ => unfold RepD at ha; obtain ⟨p, vs, e1, _⟩ := ha; subst e1; rfl
        | obj _ _ _ => unfold RepD at ha; obtain ⟨p, _, _, vs, e1, _⟩ := ha; subst e1; rfl
      rw [this]; exact q
    | _ => simp at e
  | IsNot =>
    simp only [cmpD] at e
    cases b with
    | non =>
      simp only [Option.some.injEq] at e
      unfold RepD at hb
      subst hb
      refine L2.op_notN pins s σ H _ _ v u Q I rx ry ⟨rfl, ?_⟩
      have : (!decide (x = V.non)) = z := by
        subst e
        cases a with
        | non => unfold RepD at ha; subst ha; rfl
        | bl _ => unfold RepD at ha; subst ha; rfl
        | int _ => unfold RepD at ha; subst ha; rfl
        | str _ => unfold RepD at ha; subst ha; rfl
        | tup _ => unfold RepD at ha; obtain ⟨p, vs, e1, _⟩ := ha; subst e1; rfl
        | lst _ => unfold RepD at ha; obtain ⟨p, vs, e1, _⟩ := ha; subst e1; rfl
        | frl _ => unfold RepD at ha; obtain ⟨p, vs, e1, _⟩ := ha; subst e1; rfl
        | obj _ _ _ => unfold RepD at ha; obtain ⟨p, _, _, vs, e1, _⟩ := ha; subst e1; rfl
      rw [this]; exact q
    | _ => simp at e
  | In => simp [cmpD] at e
  | NotIn => simp [cmpD] at e

/-! ### in -/
theorem cmpAll_some {x : D} {ys : List D} {p : PyData} {ps : List PyData} (h : cmpAll x ys = some (p, ps)) : x.py = some p ∧ okD p = true ∧ D.pys ys = some ps ∧ ∀ q ∈ ps, okD q = true := by
  unfold cmpAll at h
  split at h
  · rename_i p' ps' e1 e2
    split at h
    · rename_i hk
      cases h
      rw [Bool.and_eq_true, List.all_eq_true] at hk
      exact ⟨e1, hk.1, e2, hk.2⟩
    · cases h
  · cases h
theorem inD_some {x : D} {ys : List D} {b : Bool} (h : inD x ys = some b) : ∃ p ps, x.py = some p ∧ okD p = true ∧ D.pys ys = some ps ∧ (∀ q ∈ ps, okD q = true) ∧ b = ps.any fun q => PyData.eqv q p := by
  unfold inD at h
  split at h
  · rename_i p ps e
    obtain ⟨h1, h2, h3, h4⟩ := cmpAll_some e
    exact ⟨p, ps, h1, h2, h3, h4, (Option.some.inj h).symm⟩
  · cases h
theorem depthAll_le : ∀ {ps : List PyData} {n : Nat}, (∀ q ∈ ps, q.depth ≤ n) → PyData.depthAll ps ≤ n
  | [], _, _ => by simp [PyData.depthAll]
  | p :: ps, n, h => by
    rw [PyData.depthAll]
    exact Nat.max_le.mpr ⟨h p List.mem_cons_self, depthAll_le fun q hq => h q (List.mem_cons_of_mem _ hq)⟩
theorem plainAll_of : ∀ {ps : List PyData}, (∀ q ∈ ps, q.plain = true) → PyData.plainAll ps = true
  | [], _ => by simp [PyData.plainAll]
  | p :: ps, h => by
    rw [PyData.plainAll, h p List.mem_cons_self, plainAll_of fun q hq => h q (List.mem_cons_of_mem _ hq)]; rfl
def rIn (K : PySem.W.Frag) (ct : Str → Option Addr) (neg : Bool) : L2.R2 := fun x y H Q => ∃ B a b ys z, Same B H ∧ RepD K ct B a x ∧ RdD K ct B H b y ∧ b.items = some ys ∧ inD a ys = some z ∧ Q (.bl (if neg then !z else z)) H
theorem opr_in (neg : Bool) (hu : X.A.units + 64 < cLine) : OpR X (compareOp (if neg then .NotIn else .In)) (rIn X.K ct neg) := by
  intro pins s σ H x y v u Q I rx ry h
  obtain ⟨B, a, b, ys, z, sb, ha, hb, hi, e, q⟩ := h
  obtain ⟨p, vs, rfl, r, hsq⟩ := rd_items sb hb hi
  cases ry
  have go : ∀ (pd : PyData) (ps : List PyData), a.py = some pd → okD pd = true → D.pys ys = some ps → (∀ q ∈ ps, okD q = true) → z = (ps.any fun q => PyData.eqv q pd) →
      wpAny (model X.prog X.w) X.A (compareOp (if neg then .NotIn else .In) v (.ref p)) (L2.EP X pins σ Q) X.xe s := fun pd ps e1 k1 e2 k2 ez => by
    obtain ⟨as, r1⟩ := reads_of I sb ha e1 rx
    have hd : L2.DpAll X.K H vs ps := repDs_dp sb r e2
    have hp : PyData.plainAll ps = true := plainAll_of fun q hq => (okD_plain (k2 q hq)).1
    have hdp : X.A.units + 1 + min (PyData.depthAll ps) pd.depth < cLine := by
      have := depthAll_le (n := 32) fun q hq => (okD_plain (k2 q hq)).2
      have : min (PyData.depthAll ps) pd.depth ≤ 32 := Nat.le_trans (Nat.min_le_left _ _) this
      omega
    rcases hsq with hl | ht
    · obtain ⟨bs, r2⟩ := L2.Dp.reads I (.list ps) (.ref p) (.ref p) (.lst hl hd) rfl
      cases neg with
      | false => exact SeqAt.in_list_data r2 r1 hp (okD_plain k1).1 hdp ⟨.bl z, H, I, by rw [ez]; rfl, q⟩
      | true => exact SeqAt.notIn_list_data r2 r1 hp (okD_plain k1).1 hdp ⟨.bl (!z), H, I, by rw [ez]; rfl, q⟩
    · obtain ⟨bs, r2⟩ := L2.Dp.reads I (.tuple ps) (.ref p) (.ref p) (.tup ht hd) rfl
      cases neg with
      | false => exact SeqAt.in_tuple_data r2 r1 hp (okD_plain k1).1 hdp ⟨.bl z, H, I, by rw [ez]; rfl, q⟩
      | true => exact SeqAt.notIn_tuple_data r2 r1 hp (okD_plain k1).1 hdp ⟨.bl (!z), H, I, by rw [ez]; rfl, q⟩
  obtain ⟨pd, ps, e1, k1, e2, k2, ez⟩ := inD_some e
  exact go pd ps e1 k1 e2 k2 ez
end
end Ev
set_option Elab.async false
set_option linter.all false
set_option maxRecDepth 100000
set_option maxHeartbeats 1000000
/-! Subscripts, slices, built-in functions, methods, by values. -/
namespace Ev
open PySem PySem.Spec PyProof.Rows
open L2 (V HO Hp SqL SqT Same upd upd_same upd_ne Cx PE PT PA OpR CallR MtR IxR SlR Inv RelV Vals VK)

section
variable {X : Cx} {ct : Str → Option Addr}
theorem atI_len {α β : Type} {xs : List α} {ys : List β} {n : Int} {y : α} (hl : xs.length = ys.length) (h : L2.atI xs n = some y) : ∃ j, L2.ixN ys.length n = some j ∧ xs[j]? = some y := by
  unfold L2.atI at h
  rw [hl] at h
  cases e : L2.ixN ys.length n with
  | none => simp [e] at h
  | some j => rw [e] at h; exact ⟨j, rfl, h⟩
theorem ix_items {d z : D} {i : Int} (h : d.ix i = some z) : ∃ ds, d.items = some ds ∧ L2.atI ds i = some z := by
  cases d <;> simp [D.ix] at h <;> exact ⟨_, rfl, h⟩
def rIxD (K : PySem.W.Frag) (ct : Str → Option Addr) : L2.R2 := fun x y H Q => ∃ B d i z, Same B H ∧ RdD K ct B H d x ∧ y = .int i ∧ d.ix i = some z ∧ ∀ v, RepD K ct B z v → Q v H
theorem ixr : IxR X (rIxD X.K ct) := by
  intro ea eb pins s σ H x y v u Q I rx ry h hsub
  obtain ⟨B, d, i, z, sb, hd, rfl, e, q⟩ := h
  obtain ⟨ds, e1, e2⟩ := ix_items e
  obtain ⟨a, vs, rfl, r, hs⟩ := rd_items sb hd e1
  obtain ⟨j, h1, h2⟩ := atI_len r.length e2
  obtain ⟨w, hw, rw'⟩ := r.get h2
  have hat : L2.atI vs i = some w := by unfold L2.atI; rw [h1]; exact hw
  rcases hs with hl | ht
  · exact L2.ix_list ea eb pins s σ H _ _ v u Q I rx ry ⟨a, vs, i, w, rfl, rfl, hl, hat, q w rw'⟩ hsub
  · exact L2.ix_tup ea eb pins s σ H _ _ v u Q I rx ry ⟨a, vs, i, w, rfl, rfl, ht, hat, q w rw'⟩ hsub
theorem cut_rep {K : PySem.W.Frag} {B : Hp} {ds : List D} {vs : List V} (r : RepDs K ct B ds vs) (lo hi : Option Int) : RepDs K ct B (cut ds lo hi) (L2.cutV vs lo hi) := by
  unfold cut L2.cutV
  rw [r.length]
  exact (r.drop _).take _
def rSlD (K : PySem.W.Frag) (ct : Str → Option Addr) : V → Option Int → Option Int → Hp → VK → Prop := fun x lo hi H Q => ∃ B d m, Same B H ∧ RdD K ct B H d x ∧ sliceV d lo hi = some m ∧ ∀ v H', NewM K ct B H m v H' → Q v H'
theorem slr : SlR X (rSlD X.K ct) := by
  intro pins s σ H x v vl vu lo hi sl Q I rx hs pl pu h
  obtain ⟨B, d, m, sb, hd, e, q⟩ := h
  have lst : ∀ (ds : List D) (a : Addr) (vs : List V), m = .lst ((cut ds lo hi).map .d) → x = .ref a → RepDs X.K ct B ds vs → SqL X.K H a vs →
      ∃ T id, typeLookup (.type T) "__getitem__" = pure (some (.builtin id)) ∧ s.TypeIs v T ∧ wpAny (model X.prog X.w) X.A (getItem v (.ref sl)) (L2.EP X pins σ Q) X.xe s :=
    fun ds a vs em ex r hl => L2.sl_list pins s σ H x v vl vu lo hi sl Q I rx hs pl pu ⟨a, vs, ex, hl, fun p hp => q _ _ (by subst em; exact new_lst (cut_rep r lo hi) hp)⟩
  rcases hd with hd | ⟨a, xs, es, rfl, rfl, hH, r⟩
  · cases d with
    | lst ds =>
      simp only [sliceV, Option.some.injEq] at e
      unfold RepD at hd
      obtain ⟨a, vs, rfl, h1, h2⟩ := hd
      exact lst ds a vs e.symm rfl h2 (SqL.of (sb _ _ h1))
    | frl ds =>
      simp only [sliceV, Option.some.injEq] at e
      unfold RepD at hd
      obtain ⟨a, vs, rfl, h1, h2⟩ := hd
      exact lst ds a vs e.symm rfl h2 (sb.seq h1)
    | tup ds =>
      simp only [sliceV, Option.some.injEq] at e
      have hd0 := hd
      unfold RepD at hd
      obtain ⟨a, vs, rfl, h1, h2⟩ := hd
      cases rx
      obtain ⟨its, ri, ht, hz⟩ := I.tuple (h1.mono sb).sq
      have hlen : its.toArray.size = vs.length := by rw [List.size_toArray, ri.length]
      subst e
      refine ⟨"tuple", _, PyProof.Rows.slot_tuple_getitem.lookup, ht.typeIs, ?_⟩
      by_cases hw : HT.sIx vs.length 0 lo = 0 ∧ HT.sIx vs.length vs.length hi = vs.length
      · refine L2.getItem_tuple_whole ht hs pl pu (by rw [hlen]; exact hw) ⟨.ref a, H, I, rfl, q _ _ (new_d ?_)⟩
        have : cut ds lo hi = ds := by unfold cut; rw [h2.length, hw.1, hw.2, List.drop_zero, ← h2.length, Nat.sub_zero, List.take_length]
        rw [this]; exact hd0
      · refine HT.getItem_tuple_cut ht hs pl pu (by rw [hlen]; exact hw) ?_ (by rw [hlen]; exact hz)
        rw [hlen]
        have rc : Vals (L2.cutV vs lo hi) ((its.drop (HT.sIx vs.length 0 lo)).take (HT.sIx vs.length vs.length hi - HT.sIx vs.length 0 lo)) := (ri.drop _).take _
        exact ⟨V.ref s.heap.objs.size, _, tup_laid (t' := s.toks) I rc (Nat.le_trans (L2.cutV_length vs lo hi) hz), rfl, q _ _ (new_tup (cut_rep h2 lo hi) (I.hok.fresh (Nat.le_refl _)))⟩
    | _ => simp [sliceV] at e
  · simp only [sliceV, Option.some.injEq] at e
    exact lst es a xs e.symm rfl r (SqL.of hH)

/-! ### built-in functions -/
def rFn (K : PySem.W.Frag) (ct : Str → Option Addr) (f : List D → Option M) : List V → Hp → VK → Prop := fun vs H Q => ∃ B ds m, Same B H ∧ RdDs K ct B H ds vs ∧ f ds = some m ∧ ∀ v H', NewM K ct B H m v H' → Q v H'
theorem one_inv {f : D → Option M} {ds : List D} {m : M} (h : one f ds = some m) : ∃ d, ds = [d] ∧ f d = some m := by
  unfold one at h
  split at h
  · exact ⟨_, rfl, h⟩
  · cases h
theorem len_items {d : D} {n : Int} (h : d.len = some n) : ∃ ds, d.items = some ds ∧ n = ds.length := by
  cases d <;> simp [D.len] at h <;> exact ⟨_, rfl, h.symm⟩
theorem cr_len : CallR X (.builtin "len") (rFn X.K ct (one lenD)) := by
  intro pins s σ H vs us Q I r h
  obtain ⟨B, ds, m, sb, hd, e, q⟩ := h
  obtain ⟨d, ed, e0⟩ := one_inv e
  subst ed
  clear e
  have e := e0
  clear e0
  obtain ⟨v, rfl, hv⟩ := rd_un hd
  unfold lenD at e
  cases hn : d.len with
  | none => simp [hn] at e
  | some n =>
    simp only [hn, Option.some.injEq] at e
    obtain ⟨es, e1, rfl⟩ := len_items hn
    obtain ⟨a, ws, rfl, rr, hs⟩ := rd_items sb hv e1
    subst e
    refine L2.call_len_seq pins s σ H _ us Q I r ⟨a, ws, rfl, hs, ?_⟩
    rw [← rr.length]
    exact q _ _ (new_d rep_int)
theorem cr_list : CallR X (.type "list") (rFn X.K ct (one lstD)) := by
  intro pins s σ H vs us Q I r h
  obtain ⟨B, ds, m, sb, hd, e, q⟩ := h
  obtain ⟨d, ed, e0⟩ := one_inv e
  subst ed
  clear e
  have e := e0
  clear e0
  obtain ⟨v, rfl, hv⟩ := rd_un hd
  unfold lstD at e
  cases hn : d.items with
  | none => simp [hn] at e
  | some es =>
    simp only [hn, Option.some.injEq] at e
    obtain ⟨a, ws, rfl, rr, hs⟩ := rd_items sb hv hn
    subst e
    exact L2.call_list_of pins s σ H _ us Q I r ⟨a, ws, rfl, hs, fun l hl => q _ _ (new_lst rr hl)⟩
theorem cr_tuple : CallR X (.type "tuple") (rFn X.K ct (one tupD)) := by
  intro pins s σ H vs us Q I r h
  obtain ⟨B, ds, m, sb, hd, e, q⟩ := h
  obtain ⟨d, ed, e0⟩ := one_inv e
  subst ed
  clear e
  have e := e0
  clear e0
  obtain ⟨v, rfl, hv⟩ := rd_un hd
  have fromL : ∀ (es : List D) (a : Addr) (ws : List V), m = .d (.tup es) → v = .ref a → RepDs X.K ct B es ws → SqL X.K H a ws → wpAny (model X.prog X.w) X.A (call (.type "tuple") us) (L2.EP X pins σ Q) X.xe s := fun es a ws em ev rr hl => by
    subst em ev
    obtain ⟨u, rfl, ru⟩ := L2.vals1 r
    cases ru
    obtain ⟨its, ri, pl, hz⟩ := I.list hl
    refine call_tuple_list pl.isList (fun h' kp => ?_) (by rw [List.size_toArray, ← ri.length]; exact hz)
    have I1 : Inv X pins σ H { s with heap := h' } := I.kept (t' := s.toks) kp
    exact ⟨V.ref h'.objs.size, _, tup_laid (t' := s.toks) I1 ri hz, rfl, q _ _ (new_tup rr (I1.hok.fresh (Nat.le_refl _)))⟩
  rcases hv with hv | ⟨a, xs, es, rfl, rfl, hH, rr⟩
  · cases d with
    | tup es =>
      simp only [tupD, D.items, Option.some.injEq] at e
      subst e
      have hv0 := hv
      unfold RepD at hv
      obtain ⟨a, ws, rfl, h1, h2⟩ := hv
      exact L2.call_tupleT pins s σ H _ us Q I r ⟨a, ws, rfl, (h1.mono sb).sq, q _ _ (new_d hv0)⟩
    | lst es =>
      simp only [tupD, D.items, Option.some.injEq] at e
      unfold RepD at hv
      obtain ⟨a, ws, rfl, h1, h2⟩ := hv
      exact fromL es a ws e.symm rfl h2 (SqL.of (sb _ _ h1))
    | frl es =>
      simp only [tupD, D.items, Option.some.injEq] at e
      unfold RepD at hv
      obtain ⟨a, ws, rfl, h1, h2⟩ := hv
      exact fromL es a ws e.symm rfl h2 (sb.seq h1)
    | _ => simp [tupD, D.items] at e
  · simp only [tupD, D.items, Option.some.injEq] at e
    exact fromL es a xs e.symm rfl rr (SqL.of hH)
theorem cr_sum (hc : X.calm = true) : CallR X (.builtin "sum") (rFn X.K ct (one sumD)) := by
  intro pins s σ H vs us Q I r h
  obtain ⟨B, ds, m, sb, hd, e, q⟩ := h
  obtain ⟨d, ed, e0⟩ := one_inv e
  subst ed
  clear e
  have e := e0
  clear e0
  obtain ⟨v, rfl, hv⟩ := rd_un hd
  unfold sumD at e
  cases hn : d.items with
  | none => simp [hn] at e
  | some es =>
    simp only [hn] at e
    cases hi : asInts es with
    | none => simp [hi] at e
    | some ks =>
      simp only [hi, Option.some.injEq] at e
      obtain ⟨a, ws, rfl, rr, hs⟩ := rd_items sb hv hn
      rw [asInts_map hi] at rr
      have ew := rr.ints_inv
      subst e ew
      rcases hs with hl | ht
      · exact L2.cr_sum hc pins s σ H _ us Q I r ⟨a, ks, rfl, hl, q _ _ (new_d rep_int)⟩
      · obtain ⟨its, ri, pt, _⟩ := I.tuple ht
        have hu := L2.Vals.ref1 r
        subst hu
        obtain ⟨xs, ex⟩ := (L2.Vals.ints ri).allInts.items
        have hnum : numsOf (intItems xs).toList = ks := by rw [← ex]; exact (L2.Vals.ints ri).numsOf
        rw [nums_intItems] at hnum
        rw [ex] at pt
        refine PySem.W.ktm_sumG (I.ok.hd hc) pt fun h' tk t' hk => ⟨.int ks.sum, H, I.kept hk, ⟨t', ?_⟩, q _ _ (new_d rep_int)⟩
        rw [preSum_eq, List.take_of_length_le (by simp), hnum]
theorem okAll_alike {ps : List PyData} (h : okAll ps = true) : (∀ x ∈ ps, ∀ y ∈ ps, W.alike x y = true) ∧ (∀ x ∈ ps, okD x = true ∧ x ≠ .none) := by
  unfold okAll at h
  simp only [List.all_eq_true] at h
  refine ⟨fun x hx y hy => ?_, fun x hx => ?_⟩
  · have := h x hx y hy
    unfold okLt at this
    simp only [Bool.and_eq_true] at this
    exact this.1.2
  · have := h x hx x hx
    unfold okLt at this
    simp only [Bool.and_eq_true] at this
    exact ⟨this.1.1.1, fun z => by rw [z] at this; exact absurd this.2 (by simp)⟩
/-- the item that min, max gives: it is one of the items -/
theorem pick_ok {pins : List (Addr × Obj)} {s : Shared} {σ : L2.St} {B H : Hp} {es : List D} {ps : List PyData} {ws : List V} {its : List Value} {Q : VK} {i : Nat} {u : Value} {h' : Heap} {tk : Nat} {best : PyData} {bs as : List Addr}
    (I : Inv X pins σ H s) (sb : Same B H) (rr : RepDs X.K ct B es ws) (ep : D.pys es = some ps) (ri : Vals ws its) (ok : ∀ p ∈ ps, okD p = true) (hr : ReadsAll s.heap its ps as)
    (hu : its[i]? = some u) (hb : Reads h' u best bs) (hk : ∀ b o, s.heap.get? b = some o → h'.get? b = some o) (q : ∀ v, RepD X.K ct B (ofPy best) v → Q v H) : L2.EP X pins σ Q u { s with heap := h', toks := tk } := by
  have hil : i < ws.length := by rw [ri.length]; exact lt_of_some hu
  have hw : ws[i]? = some ws[i] := List.getElem?_eq_getElem hil
  obtain ⟨u', hu', ru⟩ := ri.get hw
  rw [hu] at hu'; cases hu'
  have hel : i < es.length := by rw [rr.length]; exact hil
  have he : es[i]? = some es[i] := List.getElem?_eq_getElem hel
  obtain ⟨w', hw', rw'⟩ := rr.get he
  rw [hw] at hw'; cases hw'
  have hpl : i < ps.length := by rw [← pys_len ep]; exact hel
  have hp : ps[i]? = some ps[i] := List.getElem?_eq_getElem hpl
  obtain ⟨d', hd', hpy⟩ := pys_get ep hp
  rw [he] at hd'; cases hd'
  obtain ⟨cs, r2⟩ := reads_of I sb rw' hpy ru
  have hpl2 : (ps[i]).plain = true := (okD_plain (ok _ (List.getElem_mem hpl))).1
  have := SeqAt.plain_unique _ _ _ _ _ hpl2 (Reads.keeps hk r2) hb
  exact ⟨ws[i], H, I.kept hk, ru, q _ (by rw [← this, ofPy_py hpy]; exact rw')⟩
theorem readsAll_of {pins : List (Addr × Obj)} {s : Shared} {σ : L2.St} {B H : Hp} {es : List D} {ps : List PyData} {ws : List V} {its : List Value} (I : Inv X pins σ H s) (sb : Same B H) (rr : RepDs X.K ct B es ws) (ep : D.pys es = some ps) (ri : Vals ws its) :
    ∃ as, ReadsAll s.heap its ps as := L2.Dp.readsAll I ps ws its (repDs_dp sb rr ep) ri
theorem cr_min (hc : X.calm = true) (hu : X.A.units + 64 < cLine) : CallR X (.builtin "min") (rFn X.K ct minL) := by
  intro pins s σ H vs us Q I r h
  obtain ⟨B, ds, m, sb, hd, e, q⟩ := h
  unfold minL at e
  split at e
  · rename_i d
    obtain ⟨v, rfl, hv⟩ := rd_un hd
    unfold minD at e
    cases hn : d.items with
    | none => simp [hn] at e
    | some es =>
      simp only [hn] at e
      split at e
      · rename_i a0 r0 ep
        split at e
        · rename_i hok
          simp only [Option.some.injEq] at e
          subst e
          obtain ⟨a, ws, rfl, rr, hs⟩ := rd_items sb hv hn
          obtain ⟨al, ok⟩ := okAll_alike hok
          have hdp : X.A.units + 1 + PyData.depthAll (a0 :: r0) < cLine := by
            have := depthAll_le (n := 32) fun p hp => (okD_plain (ok p hp).1).2
            omega
          have hus := L2.Vals.ref1 r
          subst hus
          rcases hs with hl | ht
          · obtain ⟨its, ri, pl, _⟩ := I.list hl
            obtain ⟨as, hr⟩ := readsAll_of I sb rr ep ri
            exact PySem.W.min_list_data (I.ok.hd hc) pl.isList (by simpa using hr) ⟨al, fun x hx => (ok x hx).2⟩ hdp fun i u h' tk bs hi hb hk =>
              pick_ok I sb rr ep ri (fun p hp => (ok p hp).1) hr (by simpa using hi) hb hk fun v hv => q _ _ (new_d hv)
          · obtain ⟨its, ri, pl, _⟩ := I.tuple ht
            obtain ⟨as, hr⟩ := readsAll_of I sb rr ep ri
            exact PySem.W.min_tuple_data (I.ok.hd hc) pl (by simpa using hr) ⟨al, fun x hx => (ok x hx).2⟩ hdp fun i u h' tk bs hi hb hk =>
              pick_ok I sb rr ep ri (fun p hp => (ok p hp).1) hr (by simpa using hi) hb hk fun v hv => q _ _ (new_d hv)
        · cases e
      · cases e
  · rename_i a b
    simp only [Option.some.injEq] at e
    subst e
    obtain ⟨v, r1, rfl, h1, v2, r2, rfl, h2, h3⟩ := hd
    have h3 : r2 = [] := h3
    subst h3
    rcases h1 with h1 | ⟨_, _, _, z, _⟩
    · rcases h2 with h2 | ⟨_, _, _, z, _⟩
      · unfold RepD at h1 h2
        subst h1 h2
        exact L2.call_min2 hc pins s σ H _ us Q I r ⟨a, b, rfl, q _ _ (new_d rep_int)⟩
      · cases z
    · cases z
  · cases e
theorem cr_max (hc : X.calm = true) (hu : X.A.units + 64 < cLine) : CallR X (.builtin "max") (rFn X.K ct maxL) := by
  intro pins s σ H vs us Q I r h
  obtain ⟨B, ds, m, sb, hd, e, q⟩ := h
  unfold maxL at e
  split at e
  · rename_i d
    obtain ⟨v, rfl, hv⟩ := rd_un hd
    unfold maxD at e
    cases hn : d.items with
    | none => simp [hn] at e
    | some es =>
      simp only [hn] at e
      split at e
      · rename_i a0 r0 ep
        split at e
        · rename_i hok
          simp only [Option.some.injEq] at e
          subst e
          obtain ⟨a, ws, rfl, rr, hs⟩ := rd_items sb hv hn
          obtain ⟨al, ok⟩ := okAll_alike hok
          have hdp : X.A.units + 1 + PyData.depthAll (a0 :: r0) < cLine := by
            have := depthAll_le (n := 32) fun p hp => (okD_plain (ok p hp).1).2
            omega
          have hus := L2.Vals.ref1 r
          subst hus
          rcases hs with hl | ht
          · obtain ⟨its, ri, pl, _⟩ := I.list hl
            obtain ⟨as, hr⟩ := readsAll_of I sb rr ep ri
            exact PySem.W.max_list_data (I.ok.hd hc) pl.isList (by simpa using hr) ⟨al, fun x hx => (ok x hx).2⟩ hdp fun i u h' tk bs hi hb hk =>
              pick_ok I sb rr ep ri (fun p hp => (ok p hp).1) hr (by simpa using hi) hb hk fun v hv => q _ _ (new_d hv)
          · obtain ⟨its, ri, pl, _⟩ := I.tuple ht
            obtain ⟨as, hr⟩ := readsAll_of I sb rr ep ri
            exact PySem.W.max_tuple_data (I.ok.hd hc) pl (by simpa using hr) ⟨al, fun x hx => (ok x hx).2⟩ hdp fun i u h' tk bs hi hb hk =>
              pick_ok I sb rr ep ri (fun p hp => (ok p hp).1) hr (by simpa using hi) hb hk fun v hv => q _ _ (new_d hv)
        · cases e
      · cases e
  · rename_i a b
    simp only [Option.some.injEq] at e
    subst e
    obtain ⟨v, r1, rfl, h1, v2, r2, rfl, h2, h3⟩ := hd
    have h3 : r2 = [] := h3
    subst h3
    rcases h1 with h1 | ⟨_, _, _, z, _⟩
    · rcases h2 with h2 | ⟨_, _, _, z, _⟩
      · unfold RepD at h1 h2
        subst h1 h2
        exact L2.call_max2 hc pins s σ H _ us Q I r ⟨a, b, rfl, q _ _ (new_d rep_int)⟩
      · cases z
    · cases z
  · cases e
theorem cr_int : CallR X (.type "int") (rFn X.K ct intL) := by
  intro pins s σ H vs us Q I r h
  obtain ⟨B, ds, m, sb, hd, e, q⟩ := h
  unfold intL at e
  split at e
  · rename_i a
    simp only [Option.some.injEq] at e
    subst e
    obtain ⟨v, rfl, h1 | ⟨_, _, _, z, _⟩⟩ := rd_un hd
    · unfold RepD at h1
      subst h1
      exact L2.call_int1 pins s σ H _ us Q I r (.inl ⟨a, rfl, q _ _ (new_d rep_int)⟩)
    · cases z
  · rename_i b
    simp only [Option.some.injEq] at e
    subst e
    obtain ⟨v, rfl, h1 | ⟨_, _, _, z, _⟩⟩ := rd_un hd
    · unfold RepD at h1
      subst h1
      exact L2.call_int1 pins s σ H _ us Q I r (.inr ⟨b, rfl, q _ _ (new_d rep_int)⟩)
    · cases z
  · cases e
theorem cr_gcd2 : CallR X (.builtin "math.gcd") (rFn X.K ct gcdL) := by
  intro pins s σ H vs us Q I r h
  obtain ⟨B, ds, m, sb, hd, e, q⟩ := h
  unfold gcdL at e
  split at e
  · rename_i a b
    simp only [Option.some.injEq] at e
    subst e
    obtain ⟨v, r2, rfl, h1, h2⟩ := hd
    obtain ⟨w, rfl, h3⟩ := rd_un h2
    clear h2
    rcases h1 with h1 | ⟨_, _, _, z, _⟩
    · rcases h3 with h2 | ⟨_, _, _, z, _⟩
      · unfold RepD at h1 h2
        subst h1 h2
        exact L2.cr_gcd pins s σ H _ us Q I r ⟨a, b, rfl, q _ _ (new_d rep_int)⟩
      · cases z
    · cases z
  · cases e
theorem cr_comb2 : CallR X (.builtin "math.comb") (rFn X.K ct combL) := by
  intro pins s σ H vs us Q I r h
  obtain ⟨B, ds, m, sb, hd, e, q⟩ := h
  unfold combL at e
  split at e
  · rename_i a b
    split at e
    · rename_i hc
      obtain ⟨c1, c2, c3, c4⟩ := hc
      simp only [Option.some.injEq] at e
      subst e
      obtain ⟨v, r2, rfl, h1, h2⟩ := hd
      obtain ⟨w, rfl, h3⟩ := rd_un h2
      clear h2
      rcases h1 with h1 | ⟨_, _, _, z, _⟩
      · rcases h3 with h2 | ⟨_, _, _, z, _⟩
        · unfold RepD at h1 h2
          subst h1 h2
          obtain ⟨t, u, rfl⟩ := L2.Vals.int2 r
          exact call_function_meets PySem.W.MGF.kind_comb PySem.W.MGF.plain_comb PySem.W.MGF.entry_comb (PySem.W.MGF.args_comb _ _) (PySem.W.mc_gives_comb t u c1 c2 c3 c4).meets ⟨.int _, H, I.tok _, ⟨_, rfl⟩, q _ _ (new_d rep_int)⟩
        · cases z
      · cases z
    · cases e
  · cases e
theorem asBls_map : ∀ {ds : List D} {bs : List Bool}, asBls ds = some bs → ds = bs.map .bl
  | [], bs, h => by cases h; rfl
  | .bl b :: r, bs, h => by
    unfold asBls at h
    cases hr : asBls r with
    | none => rw [hr] at h; cases h
    | some q => rw [hr] at h; cases h; rw [asBls_map hr]; rfl
  | .non :: _, _, h => by cases h
  | .int _ :: _, _, h => by cases h
  | .str _ :: _, _, h => by cases h
  | .tup _ :: _, _, h => by cases h
  | .lst _ :: _, _, h => by cases h
  | .obj _ _ _ :: _, _, h => by cases h
  | .frl _ :: _, _, h => by cases h
theorem reps_bl {K : PySem.W.Frag} {B : Hp} : ∀ {bs : List Bool} {ws : List V}, RepDs K ct B (bs.map .bl) ws → ws = bs.map V.bl
  | [], ws, h => by unfold RepDs at h; exact h
  | b :: r, ws, h => by
    unfold RepDs at h
    obtain ⟨v, r2, rfl, h1, h2⟩ := h
    unfold RepD at h1
    rw [h1, reps_bl h2]; rfl
theorem lst_sq {B H : Hp} {K : PySem.W.Frag} {ds : List D} {v : V} (sb : Same B H) (h : RdD K ct B H (.lst ds) v) : ∃ a vs, v = .ref a ∧ RepDs K ct B ds vs ∧ SqL K H a vs := by
  rcases h with h | ⟨a, xs, es, e, rfl, hH, r⟩
  · unfold RepD at h
    obtain ⟨a, vs, e, h1, h2⟩ := h
    exact ⟨a, vs, e, h2, SqL.of (sb _ _ h1)⟩
  · cases e
    exact ⟨a, xs, rfl, r, SqL.of hH⟩
theorem cr_all2 (hc : X.calm = true) : CallR X (.builtin "all") (rFn X.K ct (one allBD)) := by
  intro pins s σ H vs us Q I r h
  obtain ⟨B, ds, m, sb, hd, e, q⟩ := h
  obtain ⟨d, ed, e0⟩ := one_inv e
  subst ed
  clear e
  obtain ⟨v, rfl, hv⟩ := rd_un hd
  unfold allBD at e0
  split at e0
  · rename_i ds
    split at e0
    · rename_i bs hb
      simp only [Option.some.injEq] at e0
      subst e0
      have := asBls_map hb
      subst this
      obtain ⟨a, ws, rfl, rr, hs⟩ := lst_sq sb hv
      rw [reps_bl rr] at hs
      exact L2.cr_all hc pins s σ H _ us Q I r ⟨a, bs, rfl, hs, q _ _ (new_d rep_bl)⟩
    · cases e0
  · cases e0
theorem cr_any2 (hc : X.calm = true) : CallR X (.builtin "any") (rFn X.K ct (one anyBD)) := by
  intro pins s σ H vs us Q I r h
  obtain ⟨B, ds, m, sb, hd, e, q⟩ := h
  obtain ⟨d, ed, e0⟩ := one_inv e
  subst ed
  clear e
  obtain ⟨v, rfl, hv⟩ := rd_un hd
  unfold anyBD at e0
  split at e0
  · rename_i ds
    split at e0
    · rename_i bs hb
      simp only [Option.some.injEq] at e0
      subst e0
      have := asBls_map hb
      subst this
      obtain ⟨a, ws, rfl, rr, hs⟩ := lst_sq sb hv
      rw [reps_bl rr] at hs
      exact L2.cr_any hc pins s σ H _ us Q I r ⟨a, bs, rfl, hs, q _ _ (new_d rep_bl)⟩
    · cases e0
  · cases e0
theorem cr_abs : CallR X (.builtin "abs") (rFn X.K ct absL) := by
  intro pins s σ H vs us Q I r h
  obtain ⟨B, ds, m, sb, hd, e, q⟩ := h
  unfold absL at e
  split at e
  · rename_i a
    simp only [Option.some.injEq] at e
    subst e
    obtain ⟨v, rfl, h1 | ⟨_, _, _, z, _⟩⟩ := rd_un hd
    · unfold RepD at h1
      subst h1
      exact L2.call_abs pins s σ H _ us Q I r ⟨a, rfl, q _ _ (new_d rep_int)⟩
    · cases z
  · cases e
end
end Ev
set_option Elab.async false
set_option linter.all false
set_option maxRecDepth 100000
set_option maxHeartbeats 1000000
/-! sorted, isinstance, list(range(..)), len(set(..)), methods that read. -/
namespace Ev
open PySem PySem.Spec PyProof.Rows PySem.Calls
open L2 (V HO Hp SqL SqT Same upd upd_same upd_ne Cx PE PT PA OpR CallR MtR IxR SlR Inv RelV Vals VK)

section
variable {X : Cx} {ct : Str → Option Addr}
def encD (b : D × V) : PyData := match b.1.py with | some p => p | none => .none
theorem encD_zip : ∀ {es : List D} {ws : List V} {ps : List PyData}, es.length = ws.length → D.pys es = some ps → (es.zip ws).map encD = ps
  | [], [], ps, _, e => by simp [D.pys] at e; subst e; rfl
  | d :: es, w :: ws, ps, hl, e => by
    unfold D.pys at e
    cases q : d.py with
    | none => simp [q] at e
    | some y =>
      cases q2 : D.pys es with
      | none => simp [q, q2] at e
      | some ys =>
        simp [q, q2] at e; subst e
        rw [List.zip_cons_cons, List.map_cons, encD_zip (by simpa using hl) q2]
        simp [encD, q]
  | [], _ :: _, _, h, _ => by simp at h
  | _ :: _, [], _, h, _ => by simp at h
theorem each_rel : ∀ {es : List D} {ws : List V} {its : List Value}, es.length = ws.length → Vals ws its → W.EachIs (fun (u : Value) (b : D × V) => RelV b.2 u) its (es.zip ws)
  | [], [], [], _, .nil => .nil
  | d :: es, w :: ws, u :: its, hl, .cons r t => .cons r (each_rel (by simpa using hl) t)
  | [], _ :: _, _, h, _ => by simp at h
  | _ :: _, [], _, h, _ => by simp at h
theorem each_read {pins : List (Addr × Obj)} {s : Shared} {σ : L2.St} {B H : Hp} {h2 : Heap} (I : Inv X pins σ H s) (sb : Same B H) (k : ∀ b o, s.heap.get? b = some o → h2.get? b = some o) : ∀ {es : List D} {ws : List V} {its : List Value} {ps : List PyData}, RepDs X.K ct B es ws → Vals ws its → D.pys es = some ps →
    W.EachIs (fun (u : Value) (b : D × V) => ∃ as, Reads h2 u (encD b) as) its (es.zip ws)
  | [], ws, its, ps, rr, ri, e => by
    unfold RepDs at rr; subst rr; cases ri; exact .nil
  | d :: es, ws, its, ps, rr, ri, e => by
    unfold RepDs at rr
    obtain ⟨w, r, rfl, h1, h2⟩ := rr
    cases ri with
    | cons r1 r2 =>
      unfold D.pys at e
      cases q : d.py with
      | none => simp [q] at e
      | some y =>
        cases q2 : D.pys es with
        | none => simp [q, q2] at e
        | some ys =>
          refine .cons ?_ (each_read I sb k h2 r2 q2)
          obtain ⟨as, ra⟩ := reads_of I sb h1 q r1
          refine ⟨as, ?_⟩
          show Reads _ _ (encD (d, w)) as
          have : encD (d, w) = y := by simp [encD, q]
          rw [this]; exact Reads.keeps k ra
theorem each_vals : ∀ {bs : List (D × V)} {out : List Value}, W.EachIs (fun (u : Value) (b : D × V) => RelV b.2 u) out bs → Vals (bs.map (·.2)) out
  | _, _, .nil => .nil
  | _, _, .cons r t => .cons r (each_vals t)
theorem reps_perm {K : PySem.W.Frag} {B : Hp} : ∀ {bs : List (D × V)}, (∀ b ∈ bs, RepD K ct B b.1 b.2) → RepDs K ct B (bs.map (·.1)) (bs.map (·.2))
  | [], _ => RepDs.nil
  | b :: bs, h => RepDs.cons (h b List.mem_cons_self) (reps_perm fun c hc => h c (List.mem_cons_of_mem _ hc))
theorem reps_zip {K : PySem.W.Frag} {B : Hp} : ∀ {es : List D} {ws : List V}, RepDs K ct B es ws → ∀ b ∈ es.zip ws, RepD K ct B b.1 b.2
  | [], _, _, b, hb => by simp at hb
  | d :: es, ws, rr, b, hb => by
    unfold RepDs at rr
    obtain ⟨w, r, rfl, h1, h2⟩ := rr
    rw [List.zip_cons_cons] at hb
    rcases List.mem_cons.mp hb with z | z
    · subst z; exact h1
    · exact reps_zip h2 b z
theorem pys_all {es : List D} {ps : List PyData} (e : D.pys es = some ps) {ws : List V} : ∀ b ∈ es.zip ws, ∃ p, b.1.py = some p := fun b hb => by
  have hm : b.1 ∈ es := (List.of_mem_zip hb).1
  obtain ⟨i, hi, e1⟩ := List.getElem_of_mem hm
  have hpl : i < ps.length := by rw [← pys_len e]; exact hi
  obtain ⟨d, h1, h2⟩ := pys_get e (List.getElem?_eq_getElem hpl)
  rw [List.getElem?_eq_getElem hi] at h1
  cases h1
  rw [e1] at h2
  exact ⟨_, h2⟩
theorem sort_fst {es : List D} {ws : List V} {ps : List PyData} (hl : es.length = ws.length) (e : D.pys es = some ps) :
    ((es.zip ws).mergeSort (W.dataLe false encD)).map (·.1) = ofPys (ps.mergeSort (W.dataLe false id)) := by
  have h1 : ((es.zip ws).mergeSort (W.dataLe false encD)).map encD = ps.mergeSort (W.dataLe false id) := by
    have := List.map_mergeSort (r := W.dataLe false encD) (s := W.dataLe false id) (f := encD) (l := es.zip ws) (fun a _ b _ => rfl)
    rw [this, encD_zip hl e]
  have h2 : ∀ (bs : List (D × V)), (∀ b ∈ bs, ∃ p, b.1.py = some p) → ofPys (bs.map encD) = bs.map (·.1) := by
    intro bs
    induction bs with
    | nil => intro _; simp [ofPys]
    | cons b bs ih =>
      intro hb
      obtain ⟨p, hp⟩ := hb b List.mem_cons_self
      rw [List.map_cons, List.map_cons, ofPys, ih fun c hc => hb c (List.mem_cons_of_mem _ hc)]
      have : encD b = p := by simp [encD, hp]
      rw [this, ofPy_py hp]
  rw [← h1, h2]
  intro b hb
  exact pys_all e b (List.mem_mergeSort.mp hb)
/-- sorted(x) of a list or a tuple -/
theorem sorted_it {β : Type} {prog : Program} {w : World} {A : Around} {E : Value → Shared → Prop} {s : Shared} {it : Addr} {T : String} {o : Obj} {its : List Value} {n : Nat} {bs : List β} {enc : β → PyData} {R : Value → β → Prop} {Q : Value → Shared → Prop} (hT : T = "list" ∨ T = "tuple")
    (ho : s.heap.get? it = some o) (hc : o.cls = .type T) (hd : o.data = .seq its.toArray n) (hz : its.length ≤ sizeLine)
    (e : W.EachIs R its bs) (er : ∀ h1 : Heap, (∀ b u, s.heap.get? b = some u → h1.get? b = some u) → W.EachIs (fun v b => ∃ as, Reads h1 v (enc b) as) its bs)
    (hal : W.AllAlike (bs.map enc)) (hk : W.Sortable (bs.map enc)) (hu : ∀ b ∈ bs, A.units + 2 + (enc b).depth < cLine)
    (h : ∀ (h1 h2 : Heap) (out : List Value) (c : Nat), (∀ b u, s.heap.get? b = some u → h1.get? b = some u) → (∀ b u, h1.get? b = some u → h2.get? b = some u) → h2.get? h1.objs.size = some (seqObj "list" out.toArray c) → W.EachIs R out (bs.mergeSort (W.dataLe false enc)) → Q (.ref h1.objs.size) { s with heap := h2 }) :
    wpAny (model prog w) A (call (.builtin "sorted") [.ref it]) Q E s := by
  refine call_function_entry_kw kind_sorted plain_sorted entry_sorted (args_sorted1 _) ?_
  unfold Builtin.«sorted»
  refine wpAny_bind (m := checkCount "sorted" 1 1 _) (wpAny_pure ?_)
  refine wpAny_bind (wpAny_collect_seq it hT ho hc hd (fun h1 k1 => ?_) (by rw [List.size_toArray]; exact hz))
  refine wpAny_bind (wpAny_newList ?_ (by simpa using hz))
  have hp : (h1.push (seqObj "list" its.toArray 0)).get? h1.objs.size = some (seqObj "list" its.toArray 0) := Heap.get?_push_size _ rfl
  have kp : ∀ b u, s.heap.get? b = some u → (h1.push (seqObj "list" its.toArray 0)).get? b = some u := fun b u hb => Heap.get?_push_of_some _ (k1 b u hb)
  have hne : ∀ b u, s.heap.get? b = some u → b ≠ h1.objs.size := fun b u hb => Nat.ne_of_lt (Heap.lt_size (k1 b u hb))
  show wpAny _ _ _ _ _ { s with heap := h1.push (seqObj "list" its.toArray 0) }
  refine wpAny_bind (wpAny_holding (wpAny_call_entry_kw PyProof.Rows.slot_list_sort ⟨_, hp, rfl⟩ PyProof.Rows.entry_list_sort ?body (PyProof.Rows.args_list_sort _)))
  case body =>
    have er' := er (W.sortingHeap (h1.push (seqObj "list" its.toArray 0)) h1.objs.size its) fun b u hb => W.sortingHeap_old (hne b u hb) (kp b u hb)
    have S := W.SortsAt.data (prog := prog) (w := w) (A := A.in1.in1) (s := { s with heap := W.sortingHeap (h1.push (seqObj "list" its.toArray 0)) h1.objs.size its })
      (W.each_map (R := fun v d => ∃ as, Reads (W.sortingHeap (h1.push (seqObj "list" its.toArray 0)) h1.objs.size its) v d as) enc er') hal hk (W.bound_map hu)
    refine W.list_sort_vals (s := { s with heap := h1.push (seqObj "list" its.toArray 0) }) hp S hz ⟨_, rfl, wpAny_pure ⟨_, rfl, ?_⟩⟩
    obtain ⟨c, hat⟩ := sortedHeap_at (vs := its) (out := (W.sortVals (W.dataKind (W.sortingHeap (h1.push (seqObj "list" its.toArray 0)) h1.objs.size its) (bs.map enc)) false its its).toArray) hp
    refine h h1 _ _ c k1 (fun b u hb => ?_) hat (W.sortVals_data false e er' hal)
    have hb' : (h1.push (seqObj "list" its.toArray 0)).get? b = some u := Heap.get?_push_of_some _ hb
    exact (sortedHeap_old (Nat.ne_of_lt (Heap.lt_size hb)) (Heap.lt_size hb')).trans hb'
theorem srt_ok {ps : List PyData} (h : srtOk ps = true) : W.AllAlike ps ∧ W.Sortable ps ∧ ∀ p ∈ ps, okD p = true := by
  unfold srtOk at h
  rw [Bool.and_eq_true] at h
  obtain ⟨h1, h2⟩ := h
  obtain ⟨al, ok⟩ := okAll_alike h1
  refine ⟨al, ?_, fun p hp => (ok p hp).1⟩
  rw [Bool.or_eq_true] at h2
  rcases h2 with h2 | h2
  · refine .inl fun d hd => ?_
    have := List.all_eq_true.mp h2 d hd
    split at this
    · exact ⟨_, _, rfl⟩
    · cases this
  · refine .inr fun d hd => ⟨(ok d hd).2, fun xs z => ?_⟩
    have := List.all_eq_true.mp h2 d hd
    rw [z] at this
    simp at this
theorem cr_sorted (hu : X.A.units + 64 < cLine) : CallR X (.builtin "sorted") (rFn X.K ct (one sortD)) := by
  intro pins s σ H vs us Q I r h
  obtain ⟨B, ds, m, sb, hd, e, q⟩ := h
  obtain ⟨d, ed, e0⟩ := one_inv e
  subst ed
  clear e
  have e := e0
  clear e0
  obtain ⟨v, rfl, hv⟩ := rd_un hd
  unfold sortD at e
  cases hn : d.items with
  | none => simp [hn] at e
  | some es =>
    simp only [hn] at e
    split at e
    · rename_i ps ep
      split at e
      · rename_i hok
        simp only [Option.some.injEq] at e
        subst e
        rw [Bool.and_eq_true] at hok
        obtain ⟨al, sr, ok⟩ := srt_ok hok.1
        obtain ⟨a, ws, rfl, rr, hs⟩ := rd_items sb hv hn
        have hus := L2.Vals.ref1 r
        subst hus
        have enc := encD_zip rr.length ep
        have dep : ∀ b ∈ es.zip ws, X.A.units + 2 + (encD b).depth < cLine := fun b hb => by
          have hm : encD b ∈ ps := by rw [← enc]; exact List.mem_map.mpr ⟨b, hb, rfl⟩
          have := (okD_plain (ok _ hm)).2
          omega
        have fin : ∀ (its : List Value), Vals ws its → ws.length ≤ sizeLine → ∀ (h1 h2 : Heap) (out : List Value) (c : Nat), (∀ b u, s.heap.get? b = some u → h1.get? b = some u) → (∀ b u, h1.get? b = some u → h2.get? b = some u) → h2.get? h1.objs.size = some (seqObj "list" out.toArray c) →
            W.EachIs (fun (u : Value) (b : D × V) => RelV b.2 u) out ((es.zip ws).mergeSort (W.dataLe false encD)) → L2.EP X pins σ Q (.ref h1.objs.size) { s with heap := h2 } := fun its ri hz h1 h2 out c k1 k2 hat ee => by
          have I1 : Inv X pins σ H { s with heap := h1 } := I.kept (t' := s.toks) k1
          have hp : H h1.objs.size = none := I1.hok.fresh (Nat.le_refl _)
          have hvv := each_vals ee
          have hlen : ((es.zip ws).mergeSort (W.dataLe false encD)).length = ws.length := by rw [List.length_mergeSort, List.length_zip, rr.length, Nat.min_self]
          have rs : RepDs X.K ct B (ofPys (ps.mergeSort (W.dataLe false id))) (((es.zip ws).mergeSort (W.dataLe false encD)).map (·.2)) := by
            rw [← sort_fst rr.length ep]
            exact reps_perm fun b hb => reps_zip rr b (List.mem_mergeSort.mp hb)
          refine ⟨V.ref h1.objs.size, _, I1.laid (t' := s.toks) k2 (Nat.le_refl _) (show L2.ObjOk X.prog X.w _ h2 _ (.lst _) from ⟨?_, out, c, hvv, hat⟩), rfl, q _ _ (new_lst rs hp)⟩
          rw [List.length_map, hlen]; exact hz
        rcases hs with hl | ht
        · obtain ⟨its, ri, pl, hz⟩ := I.list hl
          obtain ⟨o, ho, hc, n, hd⟩ := pl.isList
          exact sorted_it (.inl rfl) ho hc hd (by rw [← ri.length]; exact hz) (each_rel rr.length ri) (fun h1 k => each_read I sb k rr ri ep) (by rw [enc]; exact al) (by rw [enc]; exact sr) dep (fin its ri hz)
        · obtain ⟨its, ri, ⟨o, ho, hc, n, hd⟩, hz⟩ := I.tuple ht
          exact sorted_it (.inr rfl) ho hc hd (by rw [← ri.length]; exact hz) (each_rel rr.length ri) (fun h1 k => each_read I sb k rr ri ep) (by rw [enc]; exact al) (by rw [enc]; exact sr) dep (fin its ri hz)
      · cases e
    · cases e
end
end Ev
set_option Elab.async false
set_option linter.all false
set_option maxRecDepth 100000
set_option maxHeartbeats 1000000
/-! len(set(..)), methods that read, isinstance. -/
namespace Ev
open PySem PySem.Spec PyProof.Rows PySem.Calls
open L2 (V HO Hp SqL SqT Same upd upd_same upd_ne Cx PE PT PA OpR CallR MtR IxR SlR Inv RelV Vals VK Gl)

section
variable {X : Cx} {ct : Str → Option Addr}
theorem nodup_len {xs ys : List Int} (hx : xs.Nodup) (hy : ys.Nodup) (h : ∀ k, k ∈ xs ↔ k ∈ ys) : xs.length = ys.length :=
  ((List.perm_ext_iff_of_nodup hx hy).mpr h).length_eq
theorem starE {e : Expr} {es : List Expr} {env : L2.Cx → Env} : True := trivial
/-- len(set(a)), a's value v -/
def rLenSet (K : PySem.W.Frag) (ct : Str → Option Addr) : V → Hp → VK → Prop := fun v H Q => ∃ B d m, Same B H ∧ RdD K ct B H d v ∧ lenSet d = some m ∧ ∀ v H', NewM K ct B H m v H' → Q v H'
theorem pe_lenSet {a : Expr} {ta : L2.TE} {p p2 q pos : Pos} (hg : Gl X "len") (hm : X.mg "len" = none) (hg2 : Gl X "set") (hm2 : X.mg "set" = none) (ha : PE X a ta) (hc : X.calm = true)
    (na : starEach [a] X.env = (false, eval a X.env) :: starEach [] X.env) : PE X (.Call (.Name "len" p) [.Call (.Name "set" p2) [a] [] q] [] pos) (fun σ H Q => ta σ H fun x H1 => rLenSet X.K ct x H1 Q) := by
  refine ⟨fun pins s σ H Q I h => ?_⟩
  refine Call_ (L2.ld_blt I hg hm boot_len ?_)
  refine PyProof.Rows.callWith_builtin1 (PyProof.Rows.args_cons ?_ rfl) rfl rfl
  refine Call_ (L2.ld_blt I hg2 hm2 boot_set ?_)
  refine PyProof.Rows.callWith_type1 (PyProof.Rows.args_cons (L2.thn (ha.run pins s σ H _ I h) fun v s1 ⟨x, H1, I1, r1, q1⟩ => PyProof.Rows.args_nil ?_) na) na rfl
  obtain ⟨B, d, m, sb, hd, e, q1⟩ := q1
  unfold lenSet at e
  cases hn : d.items with
  | none => simp [hn] at e
  | some es =>
    simp only [hn] at e
    cases hi : asInts es with
    | none => simp [hi] at e
    | some ks =>
      simp only [hi] at e
      split at e
      · rename_i hnd
        simp only [Option.some.injEq] at e
        obtain ⟨l, ws, rfl, rr, hs⟩ := rd_items sb hd hn
        rw [asInts_map hi] at rr
        have ew := rr.ints_inv
        subst e ew
        cases r1
        have hsb : ks.length + 1 < scanBound := by unfold scanBound; omega
        have fin : ∀ (h' : Heap) (tk : Nat) (S : Int → Bool) (n : Nat) (o : Obj) (zs : Array (Int × Value)) (ep : Nat) (t : SetTable), n = ks.length → h'.get? s1.heap.objs.size = some o → o.ExactSet → o.data = .set zs ep t → t.fits zs.size = true → zs.size = n → (∀ b u, s1.heap.get? b = some u → h'.get? b = some u) →
            wpAny (model X.prog X.w) X.A (call (.builtin "len") [.ref s1.heap.objs.size]) (L2.EP X pins σ Q) X.xe { s1 with heap := h', toks := tk } := fun h' tk S n o zs ep t hn2 ho hex hdd hf hsz kk => by
          have I2 : Inv X pins σ H1 { s1 with heap := h', toks := tk } := I1.kept kk
          exact call_len_set (s := { s1 with heap := h', toks := tk }) ho hex hdd hf (by rw [hsz, hn2]; omega) ⟨.int ks.length, H1, I2.tok _, ⟨_, by rw [hsz, hn2]⟩, q1 _ _ (new_d rep_int)⟩
        rcases hs with hl | ht
        · obtain ⟨its, ri, pl, _⟩ := I1.list hl
          have hlen : its.toArray.size = ks.length := by rw [List.size_toArray, ← ri.length, List.length_map]
          refine call_set_list (I1.ok.hd hc) pl.isList (ns := ks) (by simpa using L2.Vals.ints ri) (by rw [hlen]; exact hsb) fun h' tk hS hk => PyProof.Rows.args_nil ?_
          obtain ⟨o, zs, ep, t, ho, hex, hdd, _, _, _, hf, hsz⟩ := hS
          refine fin h' tk (fun _ => true) _ o zs ep t ?_ ho hex hdd hf hsz fun b u hb => hk b u (Heap.lt_size hb) hb
          rw [hlen, RZ.firstMet_nodup hnd.1 ks.length (Nat.le_refl _), List.take_length]
        · obtain ⟨its, ri, pt, _⟩ := I1.tuple ht
          refine L2.call_set_tupI (P := X.prog) ks (I1.ok.hd hc) pt (by simpa using L2.Vals.ints ri) hsb fun h' tk c hS _ hk => PyProof.Rows.args_nil ?_
          obtain ⟨o, zs, ep, t, ho, hex, hdd, _, hnd2, hmem, _, hf, hsz, _⟩ := hS
          refine fin h' tk (fun _ => true) c o zs ep t ?_ ho hex hdd hf hsz hk
          have := nodup_len hnd2 hnd.1 fun k => by rw [← hmem k]; simp
          rw [← hsz, ← this, List.length_map, Array.length_toList]
      · cases e

/-! ### methods that read -/
/-- the receiver's built-in type -/
def tyW (K : PySem.W.Frag) (T : String) (x : V) (H : Hp) : Prop := ∃ p, x = .ref p ∧ ((T = "list" ∧ ∃ xs, SqL K H p xs) ∨ (T = "tuple" ∧ ∃ xs, PTu K H p xs))
theorem tyW_is {pins : List (Addr × Obj)} {σ : L2.St} {H : Hp} {s : Shared} {T : String} {x : V} {v : Value} (I : Inv X pins σ H s) (r : RelV x v) (ty : tyW X.K T x H) :
    s.TypeIs v T ∧ ∀ a, v = .ref a → ∃ ob, s.heap.get? a = some ob ∧ ob.dict = none := by
  obtain ⟨p, rfl, ⟨rfl, xs, hq⟩ | ⟨rfl, xs, hq⟩⟩ := ty
  · cases r
    obtain ⟨its, _, pl, _⟩ := I.list hq
    refine ⟨pl.isList.typeIs, fun a ea => ?_⟩
    cases ea
    obtain ⟨o, n, e, _, hdn, _⟩ := pl
    exact ⟨o, e, hdn⟩
  · cases r
    rcases hq with ⟨its, hq⟩ | ⟨o, its, n, hk, hc, hdn, _⟩
    · obtain ⟨e, _⟩ := I.hok p _ hq
      exact ⟨⟨_, e, rfl⟩, fun a ea => by cases ea; exact ⟨_, e, rfl⟩⟩
    · exact ⟨⟨o, I.kIn p o hk, hc⟩, fun a ea => by cases ea; exact ⟨o, I.kIn _ o hk, hdn⟩⟩
def tBMw (K : PySem.W.Frag) (T : String) (r : V → List V → Hp → VK → Prop) (to : L2.TE) (t : L2.TA) : L2.TE := fun σ H Q => to σ H fun x H1 => tyW K T x H1 ∧ t σ H1 fun xs H2 => r x xs H2 Q
theorem pe_bmw {o e : Expr} {to : L2.TE} {t : L2.TA} {name : Str} {apos cpos : Pos} {T id : String} {r : V → List V → Hp → VK → Prop} (pa : PlainAttrs T) (slot : Slot T name id) (hty : typeOf (.builtin id) = pure (.type "method_descriptor")) (hm : MtR X id r)
    (ho : PE X o to) (ha : PA X [e] t) (hbase : attributeBase o name X.env (eval o X.env) = eval o X.env) (hline : (apos.endLine == cpos.line) = true) (hs : starEach [e] X.env = [(false, eval e X.env)]) :
    PE X (.Call (.Attribute o name apos) [e] [] cpos) (tBMw X.K T r to t) := by
  refine ⟨fun pins s σ H Q I h => ?_⟩
  refine wpAny_Call_method_late hbase (by rw [hs]; rfl) hline rfl (L2.thn (ho.run pins s σ H _ I h) fun v s1 ⟨x, H1, I1, r1, ty, q1⟩ => ?_)
  obtain ⟨k1, k2⟩ := tyW_is I1 r1 ty
  refine ⟨T, id, pa, slot, hty, k1, k2, ?_⟩
  have hA := ha.run cpos pins s1 σ H1 _ I1 q1
  rw [hs] at hA ⊢
  refine Calls.callWith_builtin rfl (Calls.evalArgs_plain ?_)
  exact L2.thn hA fun us s2 ⟨vs, H2, I2, r2, q2⟩ => hm pins s2 σ H2 x vs v us Q I2 r1 r2 q2
/-- what == answers, place by place -/
theorem items_eq {A : Around} {s : Shared} {its : List Value} {ps : List PyData} {as bs : List Addr} {u : Value} {p : PyData} (hr : ReadsAll s.heap its ps as) (ru : Reads s.heap u p bs) (hp : PyData.plainAll ps = true) (hd : p.plain = true) (hu : A.units + 1 + min (PyData.depthAll ps) p.depth < cLine) :
    SeqAt.ItemsEq A.in1 s its (ps.map fun q => PyData.eqv q p) u true := by
  have hl : its.length = ps.length := by
    have := W.readsAll_len (vs := its.toArray) (by simpa using hr)
    simpa using this
  refine ⟨by rw [List.length_map]; exact hl, fun j h1 h2 => ?_⟩
  have hj : j < ps.length := by rw [← hl]; exact h1
  have ha := SeqAt.items_plain (A := A) (vs := its.toArray) (by simpa using hr) ru hp hd hu its[j] (by simp)
  have he : SeqAt.readOf s.heap its[j] = ps[j] := by
    obtain ⟨_, e⟩ := SeqAt.readOf_at (vs := its.toArray) (by simpa using hr) hp j (by simpa using h1)
    simpa using e
  rw [he] at ha
  rw [List.getElem_map]
  have : decide (PyData.eqv ps[j] p = true) = PyData.eqv ps[j] p := by cases PyData.eqv ps[j] p <;> rfl
  rw [this]; exact ha
theorem idx_map {α : Type} {f : α → Bool} : ∀ {xs : List α} {j : Nat}, xs.findIdx? f = some j → (xs.map f).idxOf true = j ∧ true ∈ xs.map f
  | [], _, h => by simp at h
  | x :: xs, j, h => by
    rw [List.findIdx?_cons] at h
    cases e : f x with
    | true =>
      simp [e] at h
      subst h
      simp [e]
    | false =>
      simp only [e, Bool.false_eq_true, if_false, Option.map_eq_some_iff] at h
      obtain ⟨k, hk, rfl⟩ := h
      obtain ⟨h1, h2⟩ := idx_map hk
      refine ⟨?_, List.mem_map.mpr ?_⟩
      · rw [List.map_cons, e, List.idxOf_cons, h1]; rfl
      · obtain ⟨y, hy, hf⟩ := List.mem_map.mp h2
        exact ⟨y, List.mem_cons_of_mem _ hy, hf⟩
def rMth (K : PySem.W.Frag) (ct : Str → Option Addr) (m T : String) : V → List V → Hp → VK → Prop := fun x xs H Q => ∃ B d ds z, Same B H ∧ tyW K T x H ∧ RdD K ct B H d x ∧ RepDs K ct B ds xs ∧ mthD m d ds = some z ∧ ∀ v H', NewM K ct B H z v H' → Q v H'
theorem mth_some {m : String} {d : D} {ds : List D} {z : M} (h : mthD m d ds = some z) : ∃ es y, d.items = some es ∧ ds = [y] ∧ ((m = "index" ∧ ∃ j, idxD y es = some j ∧ z = .d (.int j)) ∨ (m = "count" ∧ ∃ j, cntD y es = some j ∧ z = .d (.int j))) := by
  unfold mthD at h
  split at h
  · rename_i es he
    split at h
    · rename_i y
      refine ⟨es, y, he, rfl, ?_⟩
      split at h
      · rename_i hm
        split at h
        · rename_i j hj; exact .inl ⟨hm, j, hj, (Option.some.inj h).symm⟩
        · cases h
      · split at h
        · rename_i hm
          split at h
          · rename_i j hj; exact .inr ⟨hm, j, hj, (Option.some.inj h).symm⟩
          · cases h
        · cases h
    · cases h
  · cases h
theorem mtr (m T : String) (hu : X.A.units + 64 < cLine) (hmT : (m = "index" ∨ m = "count") ∧ (T = "list" ∨ T = "tuple")) : MtR X (T ++ "." ++ m) (rMth X.K ct m T) := by
  intro pins s σ H x xs v us Q I rx rxs h
  obtain ⟨B, d, ds, z, sb, ty, hd, hds, e, q⟩ := h
  obtain ⟨es, y, e1, rfl, ez⟩ := mth_some e
  obtain ⟨a, ws, rfl, rr, hs⟩ := rd_items sb hd e1
  unfold RepDs at hds
  obtain ⟨w, r', rfl, hy, hr'⟩ := hds
  unfold RepDs at hr'
  subst hr'
  obtain ⟨u, rfl, ru⟩ := L2.vals1 rxs
  cases rx
  obtain ⟨p0, hp0, hty⟩ := ty
  cases hp0
  have core : ∀ (p : PyData) (ps : List PyData), cmpAll y es = some (p, ps) → ∃ bs, Reads s.heap u p bs ∧ D.pys es = some ps ∧ PyData.plainAll ps = true ∧ p.plain = true ∧ X.A.units + 1 + min (PyData.depthAll ps) p.depth < cLine := fun p ps hc => by
    obtain ⟨k1, k2, k3, k4⟩ := cmpAll_some hc
    obtain ⟨bs, rb⟩ := reads_of I sb hy k1 ru
    refine ⟨bs, rb, k3, plainAll_of fun q hq => (okD_plain (k4 q hq)).1, (okD_plain k2).1, ?_⟩
    have := depthAll_le (n := 32) fun q hq => (okD_plain (k4 q hq)).2
    have : min (PyData.depthAll ps) p.depth ≤ 32 := Nat.le_trans (Nat.min_le_left _ _) this
    omega
  have big : (sizeLine : Nat) = 16777216 := sizeLine_eq
  rcases ez with ⟨rfl, j, hj, rfl⟩ | ⟨rfl, j, hj, rfl⟩
  · unfold idxD at hj
    split at hj
    · rename_i p ps hc
      obtain ⟨bs, rb, ep, hp, hd2, hu2⟩ := core p ps hc
      obtain ⟨i1, i2⟩ := idx_map hj
      rcases hty with ⟨rfl, xs', hl⟩ | ⟨rfl, xs', ht⟩
      · rcases hs with hl2 | ht2
        · obtain ⟨its, ri, pl, hz⟩ := I.list hl2
          obtain ⟨as, hr⟩ := readsAll_of I sb rr ep ri
          refine SeqAt.call_list_index pl.isList (items_eq hr rb hp hd2 hu2) (by rw [List.length_map, ← pys_len ep, rr.length]; exact hz) i2 ?_
          exact ⟨.int j, H, I.tok _, ⟨_, by rw [i1]⟩, q _ _ (new_d rep_int)⟩
        · obtain ⟨its, _, ⟨o, n, e3, c3, _, _⟩, _⟩ := I.list hl
          obtain ⟨its2, _, ⟨o2, e4, c4, _⟩, _⟩ := I.tuple ht2
          rw [e3] at e4; cases e4; rw [c3] at c4; exact absurd (Value.type.inj c4) (by decide)
      · rcases hs with hl2 | ht2
        · obtain ⟨its, _, ⟨o, n, e3, c3, _, _⟩, _⟩ := I.list hl2
          obtain ⟨its2, _, ⟨o2, e4, c4, _⟩, _⟩ := I.tuple ht.sq
          rw [e3] at e4; cases e4; rw [c3] at c4; exact absurd (Value.type.inj c4) (by decide)
        · obtain ⟨its, ri, pt, hz⟩ := I.tuple ht2
          obtain ⟨as, hr⟩ := readsAll_of I sb rr ep ri
          refine SeqAt.call_tuple_index pt (items_eq hr rb hp hd2 hu2) i2 ?_
          exact ⟨.int j, H, I.tok _, ⟨_, by rw [i1]⟩, q _ _ (new_d rep_int)⟩
    · cases hj
  · unfold cntD at hj
    split at hj
    · rename_i p ps hc
      simp only [Option.some.injEq] at hj
      subst hj
      obtain ⟨bs, rb, ep, hp, hd2, hu2⟩ := core p ps hc
      rcases hty with ⟨rfl, xs', hl⟩ | ⟨rfl, xs', ht⟩
      · rcases hs with hl2 | ht2
        · obtain ⟨its, ri, pl, hz⟩ := I.list hl2
          obtain ⟨as, hr⟩ := readsAll_of I sb rr ep ri
          exact SeqAt.count_list_data pl.isList (by simpa using hr) rb hp hd2 hu2 ⟨.int _, H, I.tok _, ⟨_, rfl⟩, q _ _ (new_d rep_int)⟩
        · obtain ⟨its, _, ⟨o, n, e3, c3, _, _⟩, _⟩ := I.list hl
          obtain ⟨its2, _, ⟨o2, e4, c4, _⟩, _⟩ := I.tuple ht2
          rw [e3] at e4; cases e4; rw [c3] at c4; exact absurd (Value.type.inj c4) (by decide)
      · rcases hs with hl2 | ht2
        · obtain ⟨its, _, ⟨o, n, e3, c3, _, _⟩, _⟩ := I.list hl2
          obtain ⟨its2, _, ⟨o2, e4, c4, _⟩, _⟩ := I.tuple ht.sq
          rw [e3] at e4; cases e4; rw [c3] at c4; exact absurd (Value.type.inj c4) (by decide)
        · obtain ⟨its, ri, pt, hz⟩ := I.tuple ht2
          obtain ⟨as, hr⟩ := readsAll_of I sb rr ep ri
          exact SeqAt.count_tuple_data pt (by simpa using hr) rb hp hd2 hu2 ⟨.int _, H, I.tok _, ⟨_, rfl⟩, q _ _ (new_d rep_int)⟩
    · cases hj
end
end Ev
set_option Elab.async false
set_option linter.all false
set_option maxRecDepth 100000
set_option maxHeartbeats 1000000
/-! The readings of expressions from the hand layer's. -/
namespace Ev
open PySem PySem.Spec PyProof.Rows PySem.Calls
open L2 (V HO Hp SqL SqT Same upd upd_same upd_ne Cx PE PT PA OpR CallR MtR IxR SlR Inv RelV Vals VK Gl)

section
variable {K : PySem.W.Frag} {ct : Str → Option Addr} {B B' H H' : Hp} {F : List Cell} {σ : L2.St} {τ : TE0}

theorem fin_new {m : M} {e : Env} {v : V} {B0 : Hp} {Q : VK} (st : St K ct B F σ τ H) (sb : Same B0 B) (ee : erE τ = e) (n : NewM K ct B H m v H')
    (q : ∀ v H' B' t τ', Aft K ct B0 F σ m e v H' B' t τ' → Q v H') : Q v H' := by
  obtain ⟨B', t, a⟩ := aft_new st n
  rw [ee] at a
  exact q v H' B' t τ (Aft.of sb a)
theorem fin_d {d : D} {e : Env} {v : V} {B0 : Hp} {Q : VK} (st : St K ct B F σ τ H) (sb : Same B0 B) (ee : erE τ = e) (r : RepD K ct B d v)
    (q : ∀ v H' B' t τ', Aft K ct B0 F σ (.d d) e v H' B' t τ' → Q v H') : Q v H := fin_new st sb ee (new_d r) q
/-- a value, given to all, then what follows -/
theorem e_one {a : SE} {x : M} {e1 : Env} {Q : VK} (st : St K ct B F σ τ H) (ha : a (erE τ) = some (x, e1))
    (k : ∀ v H1 B1 τ1, St K ct B1 F σ τ1 H1 → Same B B1 → erE τ1 = e1 → RepD K ct B1 x.fz v → Q v H1) : TEf K ct a σ H Q :=
  ⟨B, F, τ, st, x, e1, ha, fun v H1 B1 t1 τ1 af => by
    obtain ⟨B2, st2, sb2, _, ee, r⟩ := af.give
    exact k v H1 B2 τ1 st2 sb2 ee r⟩
theorem e_two {a b : SE} {x y : M} {e1 e2 : Env} {r : L2.R2} {Q : VK} (st : St K ct B F σ τ H) (ha : a (erE τ) = some (x, e1)) (hb : b e1 = some (y, e2))
    (k : ∀ v u H2 B2 τ2, St K ct B2 F σ τ2 H2 → Same B B2 → erE τ2 = e2 → RepD K ct B2 x.fz v → RepD K ct B2 y.fz u → r v u H2 Q) : L2.tOp r (TEf K ct a) (TEf K ct b) σ H Q :=
  e_one st ha fun v H1 B1 τ1 st1 sb1 ee1 rv => e_one (Q := fun u H2 => r v u H2 Q) st1 (by rw [ee1]; exact hb) fun u H2 B2 τ2 st2 sb2 ee2 ru => k v u H2 B2 τ2 st2 (sb1.trans sb2) ee2 (rv.mono sb2) ru

theorem e_bin {op : Operator} {a b : SE} {Q : VK} (h : TEf K ct (cBin op a b) σ H Q) : L2.tOp (rOp K ct (binV op)) (TEf K ct a) (TEf K ct b) σ H Q := by
  obtain ⟨B, F, τ, st, m, e', e, q⟩ := h
  unfold cBin at e
  split at e
  · rename_i x e1 ha
    split at e
    · rename_i y e2 hb
      split at e
      · rename_i z hz
        cases e
        exact e_two st ha hb fun v u H2 B2 τ2 st2 sb2 ee rv ru => ⟨B2, _, _, m, st2.wf.sub, rv, ru, hz, fun w H' n => fin_new st2 sb2 ee n q⟩
      · cases e
    · cases e
  · cases e
theorem e_cmp {op : CmpOp} {a b : SE} {Q : VK} (h : TEf K ct (cCmp op a b) σ H Q) : L2.tOp (rCm K ct op) (TEf K ct a) (TEf K ct b) σ H Q := by
  obtain ⟨B, F, τ, st, m, e', e, q⟩ := h
  unfold cCmp at e
  split at e
  · rename_i x e1 ha
    split at e
    · rename_i y e2 hb
      split at e
      · rename_i z hz
        cases e
        exact e_two st ha hb fun v u H2 B2 τ2 st2 sb2 ee rv ru => ⟨B2, _, _, z, st2.wf.sub, rv, ru, hz, fin_d st2 sb2 ee rep_bl q⟩
      · cases e
    · cases e
  · cases e
theorem e_in {neg : Bool} {a b : SE} {Q : VK} (h : TEf K ct (cIn neg a b) σ H Q) : L2.tOp (rIn K ct neg) (TEf K ct a) (TEf K ct b) σ H Q := by
  obtain ⟨B, F, τ, st, m, e', e, q⟩ := h
  unfold cIn at e
  split at e
  · rename_i x e1 ha
    split at e
    · rename_i y e2 hb
      split at e
      · rename_i ys hy
        split at e
        · rename_i z hz
          cases e
          exact e_two st ha hb fun v u H2 B2 τ2 st2 sb2 ee rv ru => ⟨B2, _, _, ys, z, st2.wf.sub, rv, .inl ru, hy, hz, fin_d st2 sb2 ee rep_bl q⟩
        · cases e
      · cases e
    · cases e
  · cases e
/-- what is looked at may be read -/
theorem allD_rep : ∀ {ts : List MA} {xs : List D}, MA.oks K ct B ts → allD (MA.ers ts) = some xs → RepDs K ct B xs (ts.map MA.val)
  | [], xs, _, e => by simp [MA.ers, allD] at e; subst e; exact RepDs.nil
  | .d x v :: ts, xs, h, e => by
    unfold MA.oks at h
    simp only [MA.ers, MA.er, allD] at e
    split at e
    · rename_i ys hy
      cases e
      have h1 := h.1
      unfold MA.ok at h1
      exact RepDs.cons h1 (allD_rep h.2 hy)
    · cases e
  | .lst _ _ :: ts, xs, h, e => by simp [MA.ers, MA.er, allD] at e
  | .obj _ _ _ _ _ _ :: ts, xs, h, e => by simp [MA.ers, MA.er, allD] at e
theorem read_rd {pv : PV} {x : D} {v : V} (st : St K ct B F σ τ H) (e : pv.read (erE τ) = some x) (r : PVr K ct B τ pv v) : RdD K ct B H x v := by
  cases pv with
  | val y =>
    simp only [PV.read, Option.some.injEq] at e
    subst e
    exact .inl r
  | «at» i p =>
    obtain ⟨t, s, ht, hs, hv⟩ := r
    simp only [PV.read] at e
    rw [at_erE ht hs] at e
    cases s with
    | d y w => simp [MA.er] at e
    | obj c C dx a ns ts => simp [MA.er] at e
    | lst a ts =>
      simp only [MA.er] at e
      split at e
      · rename_i xs hx
        cases e
        have hok := ok_sub hs (st.ok i t ht)
        unfold MA.ok at hok
        exact .inr ⟨a, _, xs, rfl, hv.symm, cell_of st ht hs (a, _) (by simp [MA.cells]), allD_rep hok hx⟩
      · cases e
/-- a look that is read, then what follows -/
theorem k_read {k : SK} {pv : PV} {x : D} {Q : VK} (st : St K ct B F σ τ H) (hk : k (erE τ) = some pv) (hr : pv.read (erE τ) = some x) (q : ∀ v, RdD K ct B H x v → Q v H) : TKf K ct k σ H Q :=
  ⟨B, F, τ, st, pv, hk, fun v hv => q v (read_rd st hr hv)⟩
theorem p_one {a : SP} {x : D} {Q : VK} (st : St K ct B F σ τ H) (ha : a (erE τ) = some x) (q : ∀ v, RepD K ct B x v → Q v H) : TPf K ct a σ H Q := ⟨B, F, τ, st, x, ha, q⟩
theorem e_inK {neg : Bool} {a : SP} {k : SK} {Q : VK} (h : TEf K ct (cInK neg a k) σ H Q) : L2.tOp (rIn K ct neg) (TPf K ct a) (TKf K ct k) σ H Q := by
  obtain ⟨B, F, τ, st, m, e', e, q⟩ := h
  unfold cInK at e
  split at e
  · rename_i x ha
    split at e
    · rename_i pv hk
      split at e
      · rename_i y hr
        split at e
        · rename_i ys hy
          split at e
          · rename_i z hz
            cases e
            exact p_one st ha fun v rv => k_read (Q := fun u H2 => rIn K ct neg v u H2 Q) st hk hr fun u ru => ⟨B, _, _, ys, z, st.wf.sub, rv, ru, hy, hz, fin_d st (Same.refl _) rfl rep_bl q⟩
          · cases e
        · cases e
      · cases e
    · cases e
  · cases e
theorem e_neg {a : SE} {Q : VK} (h : TEf K ct (cNeg a) σ H Q) : L2.tUn (L2.rU fun i => .int (-i)) (TEf K ct a) σ H Q := by
  obtain ⟨B, F, τ, st, m, e', e, q⟩ := h
  unfold cNeg at e
  split at e
  · rename_i i e1 ha
    cases e
    exact e_one st ha fun v H1 B1 τ1 st1 sb1 ee rv => by
      simp only [M.fz] at rv
      unfold RepD at rv
      exact ⟨i, rv, fin_d st1 sb1 ee rep_int q⟩
  · cases e
theorem p_neg {a : SP} {Q : VK} (h : TPf K ct (pNeg a) σ H Q) : L2.tUn (L2.rU fun i => .int (-i)) (TPf K ct a) σ H Q := by
  obtain ⟨B, F, τ, st, x, e, q⟩ := h
  unfold pNeg at e
  split at e
  · rename_i i ha
    cases e
    exact p_one st ha fun v rv => by
      unfold RepD at rv
      exact ⟨i, rv, q _ rep_int⟩
  · cases e
theorem p_bin {op : Operator} {a b : SP} {Q : VK} (h : TPf K ct (pBin op a b) σ H Q) : L2.tOp (rOp K ct (binV op)) (TPf K ct a) (TPf K ct b) σ H Q := by
  obtain ⟨B, F, τ, st, x, e, q⟩ := h
  unfold pBin at e
  split at e
  · rename_i i ha
    split at e
    · rename_i j hb
      split at e
      · rename_i z hz
        cases e
        refine p_one st ha fun v rv => p_one (Q := fun u H2 => rOp K ct (binV op) v u H2 Q) st hb fun u ru => ⟨B, _, _, .d (.int z), st.wf.sub, rv, ru, by simp only [binV, hz], fun w H' n => ?_⟩
        rcases n with ⟨rfl, n⟩ | ⟨_, _, _, _, n, _⟩
        · exact q w n
        · cases n
      · cases e
    · cases e
  · cases e
theorem e_and {a b : SE} {Q : VK} (h : TEf K ct (cAnd a b) σ H Q) : L2.tAndV (TEf K ct a) (TEf K ct b) σ H Q := by
  obtain ⟨B, F, τ, st, m, e', e, q⟩ := h
  unfold cAnd at e
  split at e
  · rename_i x e1 ha
    refine e_one st ha fun v H1 B1 τ1 st1 sb1 ee rv => ?_
    simp only [M.fz] at rv
    unfold RepD at rv
    refine ⟨x, rv, ?_⟩
    cases x with
    | true =>
      simp only [if_true] at e ⊢
      exact ⟨B1, F, τ1, st1, m, e', by rw [ee]; exact e, fun v H' B' t τ' af => q v H' B' t τ' (Aft.of sb1 af)⟩
    | false =>
      simp only [Bool.false_eq_true, if_false, Option.some.injEq, Prod.mk.injEq] at e ⊢
      obtain ⟨rfl, rfl⟩ := e
      exact fin_d st1 sb1 ee rep_bl q
  · cases e
theorem e_or {a b : SE} {Q : VK} (h : TEf K ct (cOr a b) σ H Q) : L2.tOrV (TEf K ct a) (TEf K ct b) σ H Q := by
  obtain ⟨B, F, τ, st, m, e', e, q⟩ := h
  unfold cOr at e
  split at e
  · rename_i x e1 ha
    refine e_one st ha fun v H1 B1 τ1 st1 sb1 ee rv => ?_
    simp only [M.fz] at rv
    unfold RepD at rv
    refine ⟨x, rv, ?_⟩
    cases x with
    | false =>
      simp only [Bool.false_eq_true, if_false] at e ⊢
      exact ⟨B1, F, τ1, st1, m, e', by rw [ee]; exact e, fun v H' B' t τ' af => q v H' B' t τ' (Aft.of sb1 af)⟩
    | true =>
      simp only [if_true, Option.some.injEq, Prod.mk.injEq] at e ⊢
      obtain ⟨rfl, rfl⟩ := e
      exact fin_d st1 sb1 ee rep_bl q
  · cases e
theorem e_not {a : SE} {Q : VK} (h : TEf K ct (cNot a) σ H Q) : L2.tNotV (TEf K ct a) σ H Q := by
  obtain ⟨B, F, τ, st, m, e', e, q⟩ := h
  unfold cNot at e
  split at e
  · rename_i x e1 ha
    cases e
    exact e_one st ha fun v H1 B1 τ1 st1 sb1 ee rv => by
      simp only [M.fz] at rv
      unfold RepD at rv
      exact ⟨x, rv, fin_d st1 sb1 ee rep_bl q⟩
  · cases e
theorem e_if {t : ST} {a b : SE} {Q : VK} (h : TEf K ct (cIf t a b) σ H Q) : L2.tIf (TTf K ct t) (TEf K ct a) (TEf K ct b) σ H Q := by
  obtain ⟨B, F, τ, st, m, e', e, q⟩ := h
  unfold cIf at e
  split at e
  · rename_i x e1 ht
    refine ⟨B, F, τ, st, x, e1, ht, fun H1 B1 τ1 af => ?_⟩
    cases x with
    | true =>
      simp only [if_true] at e ⊢
      exact ⟨B1, F, τ1, af.st, m, e', by rw [af.ee]; exact e, fun v H' B' t τ' g => q v H' B' t τ' (Aft.of af.sb g)⟩
    | false =>
      simp only [Bool.false_eq_true, if_false] at e ⊢
      exact ⟨B1, F, τ1, af.st, m, e', by rw [af.ee]; exact e, fun v H' B' t τ' g => q v H' B' t τ' (Aft.of af.sb g)⟩
  · cases e

/-! ### lists of expressions -/
theorem a_nil {Q : List V → Hp → Prop} (h : TAf K ct [] σ H Q) : L2.tNil σ H Q := by
  obtain ⟨B, F, τ, st, ms, e', e, q⟩ := h
  simp only [evL, Option.some.injEq, Prod.mk.injEq] at e
  obtain ⟨rfl, rfl⟩ := e
  exact q [] H B [] τ ⟨by simpa [MA.cellsL] using st, by unfold MA.oks; trivial, Same.refl _, rfl, by simp [MA.ers], rfl⟩
theorem a_cons {c : SE} {cs : List SE} {Q : List V → Hp → Prop} (h : TAf K ct (c :: cs) σ H Q) : L2.tCons (TEf K ct c) (TAf K ct cs) σ H Q := by
  obtain ⟨B, F, τ, st, ms, e', e, q⟩ := h
  unfold evL at e
  split at e
  · rename_i m e1 hc
    split at e
    · rename_i ms' e2 hr
      cases e
      refine ⟨B, F, τ, st, m, e1, hc, fun v H1 B1 t1 τ1 af => ⟨B1, t1.cells ++ F, τ1, af.st, ms', _, by rw [af.ee]; exact hr, fun vs H2 B2 ts τ2 al => ?_⟩⟩
      refine q _ H2 B2 (t1 :: ts) τ2 ⟨?_, ?_, af.sb.trans al.sb, al.ee, by simp [MA.ers, af.em, al.em], by simp [af.ev, al.ev]⟩
      · refine ⟨al.st.wf.perm (List.Perm.append_left _ ?_), al.st.ok, al.st.rel⟩
        simp only [MA.cellsL]
        rw [← List.append_assoc]
        exact List.Perm.append_right _ List.perm_append_comm
      · unfold MA.oks
        exact ⟨af.ok.mono al.sb, al.ok⟩
    · cases e
  · cases e
/-- a tuple written out -/
def tTup (t : L2.TA) : L2.TE := fun σ H Q => t σ H fun xs H1 => xs.length ≤ sizeLine ∧ ∀ p its, H1 p = none → Q (.ref p) (upd H1 p (HOt its xs))
theorem pe_tup {X : Cx} {es : List Expr} {t : L2.TA} {x1 : Nat} {pos : Pos} (h : PA X es t) : PE X (.Tuple es x1 pos) (tTup t) := by
  refine ⟨fun pins s σ H Q I hq => ?_⟩
  refine wpAny_Tuple_spliced (L2.thn (h.run pos pins s σ H _ I hq) fun us s1 ⟨xs, H1, I1, r, z, q⟩ => ⟨by rw [← r.length]; exact z, ?_⟩)
  exact ⟨V.ref s1.heap.objs.size, _, tup_laid (t' := s1.toks) I1 r z, rfl, q _ us (I1.hok.fresh (Nat.le_refl _))⟩
theorem e_tup {cs : List SE} {Q : VK} (h : TEf K ct (cTup cs) σ H Q) : tTup (TAf K ct cs) σ H Q := by
  obtain ⟨B, F, τ, st, m, e', e, q⟩ := h
  unfold cTup at e
  split at e
  · rename_i ms e1 hc
    split at e
    · rename_i hl
      cases e
      refine ⟨B, F, τ, st, ms, _, hc, fun vs H1 B1 ts τ1 al => ?_⟩
      obtain ⟨B2, st2, sb2, _, ee, r⟩ := al.give
      refine ⟨?_, fun p its hp => fin_new st2 sb2 ee (new_tup (its := its) r hp) q⟩
      rw [← r.length, M.fzs_map, List.length_map, line_eq]; exact hl
    · cases e
  · cases e
theorem e_lst {cs : List SE} {Q : VK} (h : TEf K ct (cLst cs) σ H Q) : L2.tLst (TAf K ct cs) σ H Q := by
  obtain ⟨B, F, τ, st, m, e', e, q⟩ := h
  unfold cLst at e
  split at e
  · rename_i ms e1 hc
    split at e
    · rename_i hl
      cases e
      refine ⟨B, F, τ, st, ms, _, hc, fun vs H1 B1 ts τ1 al => ?_⟩
      have hv := al.ev
      have hm := al.em
      refine ⟨?_, fun p hp => q _ _ B1 (.lst p ts) τ1 ⟨?_, ?_, al.sb, al.ee, ?_, rfl⟩⟩
      · rw [← hv, List.length_map, line_eq]
        rw [← hm, ers_map, List.length_map] at hl
        exact hl
      · refine St.ofFront ?_ al.st.ok al.st.rel
        simp only [MA.cells]
        rw [hv]
        exact (al.st.front.owned hp)
      · unfold MA.ok; exact al.ok
      · simp only [MA.er, hm]
    · cases e
  · cases e

/-! ### subscripts, slices, attributes -/
theorem e_ix {a b : SE} {Q : VK} (h : TEf K ct (cIx a b) σ H Q) : L2.tOp (rIxD K ct) (TEf K ct a) (TEf K ct b) σ H Q := by
  obtain ⟨B, F, τ, st, m, e', e, q⟩ := h
  unfold cIx at e
  split at e
  · rename_i x e1 ha
    split at e
    · rename_i i e2 hb
      split at e
      · rename_i z hz
        cases e
        refine e_two st ha hb fun v u H2 B2 τ2 st2 sb2 ee rv ru => ?_
        simp only [M.fz] at ru
        unfold RepD at ru
        exact ⟨B2, _, i, z, st2.wf.sub, .inl rv, ru, hz, fun w hw => fin_d st2 sb2 ee hw q⟩
      · cases e
    · cases e
  · cases e
def tOptI (c : Option SE) : L2.TO := match c with
  | none => L2.tNoPart
  | some c => L2.tPart (TEf K ct c)
theorem e_opt {c : Option SE} {e1 : Env} {i : Option Int} {Q : Option Int → Hp → Prop} (st : St K ct B F σ τ H) (h : optI c (erE τ) = some (i, e1))
    (k : ∀ H1 B1 τ1, St K ct B1 F σ τ1 H1 → Same B B1 → erE τ1 = e1 → Q i H1) : tOptI (K := K) (ct := ct) c σ H Q := by
  cases c with
  | none =>
    simp only [optI, Option.some.injEq, Prod.mk.injEq] at h
    obtain ⟨rfl, rfl⟩ := h
    exact k H B τ st (Same.refl _) rfl
  | some c =>
    simp only [optI] at h
    split at h
    · rename_i j e2 hc
      cases h
      refine e_one st hc fun v H1 B1 τ1 st1 sb1 ee rv => ?_
      simp only [M.fz] at rv
      unfold RepD at rv
      exact ⟨j, rv, k H1 B1 τ1 st1 sb1 ee⟩
    · cases h
theorem e_sl {a : SE} {lo hi : Option SE} {Q : VK} (h : TEf K ct (cSl a lo hi) σ H Q) : L2.tSl (rSlD K ct) (TEf K ct a) (tOptI (K := K) (ct := ct) lo) (tOptI (K := K) (ct := ct) hi) σ H Q := by
  obtain ⟨B, F, τ, st, m, e', e, q⟩ := h
  unfold cSl at e
  split at e
  · rename_i x e1 ha
    split at e
    · rename_i l e2 hl
      split at e
      · rename_i u e3 hu
        split at e
        · rename_i z hz
          cases e
          exact e_one st ha fun v H1 B1 τ1 st1 sb1 ee1 rv => e_opt st1 (by rw [ee1]; exact hl) fun H2 B2 τ2 st2 sb2 ee2 => e_opt st2 (by rw [ee2]; exact hu) fun H3 B3 τ3 st3 sb3 ee3 =>
            ⟨B3, _, m, st3.wf.sub, .inl ((rv.mono sb2).mono sb3), hz, fun w H' n => fin_new st3 ((sb1.trans sb2).trans sb3) ee3 n q⟩
        · cases e
      · cases e
    · cases e
  · cases e
theorem e_fld {a : SE} {f : Str} {Q : VK} (h : TEf K ct (cFld a f) σ H Q) : L2.tFld K (TEf K ct a) f σ H Q := by
  obtain ⟨B, F, τ, st, m, e', e, q⟩ := h
  unfold cFld at e
  split at e
  · rename_i x e1 ha
    refine e_one st ha fun v H1 B1 τ1 st1 sb1 ee1 rv => ?_
    split at e
    · rename_i c ns xs hx
      rw [hx] at rv
      unfold RepD at rv
      obtain ⟨p, C, dx, vs, rfl, oc, hB, hl, hr⟩ := rv
      split at e
      · rename_i j hj
        split at e
        · rename_i y hy
          cases e
          obtain ⟨u, hu, ru⟩ := hr.get hy
          have hf : f ∈ ns := by
            unfold fIx at hj
            obtain ⟨h1, h2, _⟩ := List.findIdx?_eq_some_iff_getElem.mp hj
            have e2 : ns[j] = f := by simpa using h2
            rw [← e2]; exact List.getElem_mem _
          exact ⟨p, C, dx, ns.zip vs, u, rfl, st1.wf.sub _ _ hB, oc.cls, oc.na f hf, fIx_lookup hj hu, fin_d st1 sb1 ee1 ru q⟩
        · cases e
      · cases e
    · cases e
  · cases e

/-! ### built-in functions -/
theorem e_bK {f : D → Option M} {k : SK} {Q : VK} (h : TEf K ct (bK f k) σ H Q) : L2.tCB (rFn K ct (one f)) (L2.tCons (TKf K ct k) L2.tNil) σ H Q := by
  obtain ⟨B, F, τ, st, m, e', e, q⟩ := h
  unfold bK at e
  split at e
  · rename_i pv hk
    split at e
    · rename_i x hr
      split at e
      · rename_i z hz
        cases e
        exact k_read st hk hr fun v hv => ⟨B, [x], m, st.wf.sub, rd_one hv, by simpa [one] using hz, fun w H' n => fin_new st (Same.refl _) rfl n q⟩
      · cases e
    · cases e
  · cases e
theorem e_bV {f : List D → Option M} {cs : List SE} {Q : VK} (h : TEf K ct (bV f cs) σ H Q) : L2.tCB (rFn K ct f) (TAf K ct cs) σ H Q := by
  obtain ⟨B, F, τ, st, m, e', e, q⟩ := h
  unfold bV at e
  split at e
  · rename_i ms e1 hc
    split at e
    · rename_i z hz
      cases e
      refine ⟨B, F, τ, st, ms, _, hc, fun vs H1 B1 ts τ1 al => ?_⟩
      obtain ⟨B2, st2, sb2, _, ee, r⟩ := al.give
      exact ⟨B2, _, m, st2.wf.sub, r.rd, hz, fun w H' n => fin_new st2 sb2 ee n q⟩
    · cases e
  · cases e
theorem p_len {k : SK} {Q : VK} (h : TPf K ct (pLen k) σ H Q) : L2.tCB (fun xs H Q => ∃ p ys, xs = [.ref p] ∧ (SqL K H p ys ∨ SqT K H p ys) ∧ Q (.int ys.length) H) (L2.tCons (TKf K ct k) L2.tNil) σ H Q := by
  obtain ⟨B, F, τ, st, x, e, q⟩ := h
  unfold pLen at e
  split at e
  · rename_i pv hk
    split at e
    · rename_i n hn
      cases e
      refine ⟨B, F, τ, st, pv, hk, fun v hv => ?_⟩
      cases pv with
      | val y =>
        simp only [PV.len] at hn
        obtain ⟨es, e1, rfl⟩ := len_items hn
        obtain ⟨a, ws, rfl, rr, hs⟩ := rd_items st.wf.sub (.inl hv : RdD K ct B H y v) e1
        exact ⟨a, ws, rfl, hs, by rw [← rr.length]; exact q _ rep_int⟩
      | «at» i p =>
        obtain ⟨t, s, ht, hs, hv⟩ := hv
        simp only [PV.len] at hn
        rw [at_erE ht hs] at hn
        cases s with
        | d y w => simp [MA.er] at hn
        | obj c C dx a ns ts => simp [MA.er] at hn
        | lst a ts =>
          simp only [MA.er, Option.some.injEq, ers_map, List.length_map] at hn
          have hv2 : V.ref a = v := hv
          subst hv2 hn
          refine ⟨a, ts.map MA.val, rfl, .inl (SqL.of (cell_of st ht hs (a, _) (by simp [MA.cells]))), ?_⟩
          rw [List.length_map]
          exact q _ rep_int
    · cases e
  · cases e
theorem e_lenSet {c : SE} {Q : VK} (h : TEf K ct (bV (one lenSet) [c]) σ H Q) : (fun σ H Q => TEf K ct c σ H fun x H1 => rLenSet K ct x H1 Q) σ H Q := by
  obtain ⟨B, F, τ, st, m, e', e, q⟩ := h
  unfold bV at e
  split at e
  · rename_i ms e1 hc
    simp only [evL] at hc
    split at hc
    · rename_i x e2 hx
      cases hc
      split at e
      · rename_i z hz
        cases e
        exact e_one st hx fun v H1 B1 τ1 st1 sb1 ee rv => ⟨B1, _, m, st1.wf.sub, .inl rv, by simpa [M.fzs, one] using hz, fun w H' n => fin_new st1 sb1 ee n q⟩
      · cases e
    · cases hc
  · cases e
theorem e_lenSetK {k : SK} {Q : VK} (h : TEf K ct (bK lenSet k) σ H Q) : (fun σ H Q => TKf K ct k σ H fun x H1 => rLenSet K ct x H1 Q) σ H Q := by
  obtain ⟨B, F, τ, st, m, e', e, q⟩ := h
  unfold bK at e
  split at e
  · rename_i pv hk
    split at e
    · rename_i x hr
      split at e
      · rename_i z hz
        cases e
        exact k_read st hk hr fun v hv => ⟨B, x, m, st.wf.sub, hv, hz, fun w H' n => fin_new st (Same.refl _) rfl n q⟩
      · cases e
    · cases e
  · cases e
end
end Ev
set_option Elab.async false
set_option linter.all false
set_option maxRecDepth 100000
set_option maxHeartbeats 1000000
/-! More expressions: subscripts by a look, methods, isinstance, list(range(..)); tests. -/
namespace Ev
open PySem PySem.Spec PyProof.Rows PySem.Calls
open L2 (V HO Hp SqL SqT Same upd upd_same upd_ne Cx PE PT PA PW OpR CallR MtR IxR SlR Inv RelV Vals VK Gl)

section
variable {K : PySem.W.Frag} {ct : Str → Option Addr} {B B' H H' : Hp} {F : List Cell} {σ : L2.St} {τ : TE0}

theorem Wf.junk {cs : List Cell} {p : Addr} {o : HO} (h : Wf B cs H) (hp : H p = none) : Wf B cs (upd H p o) := by
  have w := Wf.owned (o := o) h hp
  exact ⟨w.sub, fun c hc => w.own c (List.mem_cons_of_mem _ hc), h.nd⟩
theorem St.junk {p : Addr} {o : HO} (h : St K ct B F σ τ H) (hp : H p = none) : St K ct B F σ τ (upd H p o) := ⟨h.wf.junk hp, h.ok, h.rel⟩

/-! ### name[b] -/
def rIxV (K : PySem.W.Frag) (ct : Str → Option Addr) : L2.R2 := fun x y H Q => rIxD K ct x y H Q ∨ L2.rIxL K x y H Q
theorem ixv {X : Cx} : IxR X (rIxV X.K ct) := by
  intro ea eb pins s σ H x y v u Q I rx ry h hsub
  rcases h with h | h
  · exact ixr ea eb pins s σ H x y v u Q I rx ry h hsub
  · exact L2.ix_list ea eb pins s σ H x y v u Q I rx ry h hsub
theorem e_ixv {i : Nat} {b : SE} {Q : VK} (h : TEf K ct (cIxV i b) σ H Q) : L2.tOp (rIxV K ct) (L2.tVar i) (TEf K ct b) σ H Q := by
  obtain ⟨B, F, τ, st, m, e', e, q⟩ := h
  unfold cIxV at e
  split at e
  · cases e
  · rename_i m0 h0
    obtain ⟨t0, ht0, _⟩ := erE_slot h0
    have hσ := st.rel.at_ i t0 ht0
    split at e
    · rename_i n e1 hb
      refine ⟨t0.val, hσ, ?_⟩
      refine e_one (Q := fun u H2 => rIxV K ct t0.val u H2 Q) st hb fun u H1 B1 τ1 st1 sb1 ee ru => ?_
      simp only [M.fz] at ru
      unfold RepD at ru
      subst ru
      rw [← ee] at e
      split at e
      · rename_i x hx
        split at e
        · rename_i y hy
          cases e
          obtain ⟨t, ht, het⟩ := erE_slot hx
          have hv : t.val = t0.val := by
            have := st1.rel.at_ i t ht
            rw [hσ] at this
            exact (Option.some.inj (Option.some.inj this)).symm
          cases t with
          | d x' v =>
            simp only [MA.er, M.d.injEq] at het
            subst het
            have hok := st1.ok i _ ht
            unfold MA.ok at hok
            simp only [MA.val] at hv
            rw [hv] at hok
            exact .inl ⟨B1, x', n, y, st1.wf.sub, .inl hok, rfl, hy, fun w hw => fin_d st1 sb1 rfl hw q⟩
          | lst a ts => simp [MA.er] at het
          | obj c C dx a ns ts => simp [MA.er] at het
        · cases e
      · rename_i ms hx
        split at e
        · rename_i y hy
          cases e
          obtain ⟨t, ht, het⟩ := erE_slot hx
          have hv : t.val = t0.val := by
            have := st1.rel.at_ i t ht
            rw [hσ] at this
            exact (Option.some.inj (Option.some.inj this)).symm
          cases t with
          | d x' v => simp [MA.er] at het
          | lst a ts =>
            simp only [MA.er, M.lst.injEq] at het
            subst het
            have hok := st1.ok i _ ht
            unfold MA.ok at hok
            unfold L2.atI at hy
            rw [ers_map, List.length_map] at hy
            cases hj : L2.ixN ts.length n with
            | none => simp [hj] at hy
            | some j =>
              rw [hj] at hy
              have hy2 : (ts.map MA.er)[j]? = some (M.d y) := hy
              rw [List.getElem?_map, Option.map_eq_some_iff] at hy2
              obtain ⟨u, hu, eu⟩ := hy2
              have uok := oks_iff.mp hok u (List.mem_of_getElem? hu)
              cases u with
              | d y' w =>
                simp only [MA.er, M.d.injEq] at eu
                subst eu
                unfold MA.ok at uok
                have hc : H1 a = some (.lst (ts.map MA.val)) := cell_of (p := []) st1 ht rfl (a, _) (by simp [MA.cells])
                refine .inr ⟨a, ts.map MA.val, n, w, hv.symm, rfl, SqL.of hc, ?_, fin_d st1 sb1 rfl uok q⟩
                unfold L2.atI
                rw [List.length_map, hj]
                show (ts.map MA.val)[j]? = _
                rw [List.getElem?_map, hu]; rfl
              | lst _ _ => simp [MA.er] at eu
              | obj _ _ _ _ _ _ => simp [MA.er] at eu
          | obj c C dx a ns ts => simp [MA.er] at het
        · cases e
      · cases e
    · cases e

/-! ### methods that read -/
def tMth (K : PySem.W.Frag) (ct : Str → Option Addr) (m : String) (to : L2.TE) (t : L2.TA) : L2.TE := fun σ H Q => to σ H fun x H1 => ∃ T, (T = "list" ∨ T = "tuple") ∧ tyW K T x H1 ∧ t σ H1 fun xs H2 => rMth K ct m T x xs H2 Q
theorem pe_mth {X : Cx} {o e : Expr} {to : L2.TE} {t : L2.TA} {m : String} {apos cpos : Pos} (hm : m = "index" ∨ m = "count") (hu : X.A.units + 64 < cLine)
    (ho : PE X o to) (ha : PA X [e] t) (hbase : attributeBase o (Str.ofString m) X.env (eval o X.env) = eval o X.env) (hline : (apos.endLine == cpos.line) = true) (hs : starEach [e] X.env = [(false, eval e X.env)]) :
    PE X (.Call (.Attribute o (Str.ofString m) apos) [e] [] cpos) (tMth X.K ct m to t) := by
  refine ⟨fun pins s σ H Q I h => ?_⟩
  refine wpAny_Call_method_late hbase (by rw [hs]; rfl) hline rfl (L2.thn (ho.run pins s σ H _ I h) fun v s1 ⟨x, H1, I1, r1, T, hT, ty, q1⟩ => ?_)
  obtain ⟨k1, k2⟩ := tyW_is I1 r1 ty
  have base : ∃ id, PlainAttrs T ∧ Slot T (Str.ofString m) id ∧ typeOf (.builtin id) = pure (.type "method_descriptor") ∧ MtR X id (rMth X.K ct m T) := by
    refine ⟨T ++ "." ++ m, ?_⟩
    rcases hm with rfl | rfl <;> rcases hT with rfl | rfl
    · exact ⟨F.plainAttrs_list, F.slot_list_index, F.type_list_index, mtr _ _ hu ⟨.inl rfl, .inl rfl⟩⟩
    · exact ⟨F.plainAttrs_tuple, F.slot_tuple_index, F.type_tuple_index, mtr _ _ hu ⟨.inl rfl, .inr rfl⟩⟩
    · exact ⟨F.plainAttrs_list, F.slot_list_count, F.type_list_count, mtr _ _ hu ⟨.inr rfl, .inl rfl⟩⟩
    · exact ⟨F.plainAttrs_tuple, F.slot_tuple_count, F.type_tuple_count, mtr _ _ hu ⟨.inr rfl, .inr rfl⟩⟩
  obtain ⟨id, pa, slot, hty, hmt⟩ := base
  refine ⟨T, id, pa, slot, hty, k1, k2, ?_⟩
  have hA := ha.run cpos pins s1 σ H1 _ I1 q1
  rw [hs] at hA ⊢
  refine Calls.callWith_builtin rfl (Calls.evalArgs_plain ?_)
  exact L2.thn hA fun us s2 ⟨vs, H2, I2, r2, q2⟩ => hmt pins s2 σ H2 x vs v us Q I2 r1 r2 q2
def tyT : D → String
  | .tup _ => "tuple"
  | _ => "list"
theorem tyT_or (d : D) : tyT d = "list" ∨ tyT d = "tuple" := by cases d <;> simp [tyT]
theorem tyW_of {d : D} {es : List D} {v : V} (h : RdD K ct B H d v) (sb : Same B H) (e : d.items = some es) : tyW K (tyT d) v H := by
  rcases h with h | ⟨a, vs, ds, rfl, rfl, hc, _⟩
  · cases d with
    | tup ds =>
      unfold RepD at h
      obtain ⟨a, vs, rfl, hp, _⟩ := h
      exact ⟨a, rfl, .inr ⟨rfl, vs, hp.mono sb⟩⟩
    | lst ds =>
      unfold RepD at h
      obtain ⟨a, vs, rfl, hp, _⟩ := h
      exact ⟨a, rfl, .inl ⟨rfl, vs, SqL.of (sb _ _ hp)⟩⟩
    | frl ds =>
      unfold RepD at h
      obtain ⟨a, vs, rfl, hp, _⟩ := h
      exact ⟨a, rfl, .inl ⟨rfl, vs, sb.seq hp⟩⟩
    | _ => simp [D.items] at e
  · exact ⟨a, rfl, .inl ⟨rfl, vs, SqL.of hc⟩⟩
theorem mth_items {m : String} {d : D} {ds : List D} {z : M} (h : mthD m d ds = some z) : ∃ es, d.items = some es := by
  obtain ⟨es, _, h1, _⟩ := mth_some h
  exact ⟨es, h1⟩
theorem e_mV {m : String} {a : SE} {cs : List SE} {Q : VK} (h : TEf K ct (mV m a cs) σ H Q) : tMth K ct m (TEf K ct a) (TAf K ct cs) σ H Q := by
  obtain ⟨B, F, τ, st, m', e', e, q⟩ := h
  unfold mV at e
  split at e
  · rename_i x e1 ha
    split at e
    · rename_i ms e2 hc
      split at e
      · rename_i z hz
        cases e
        obtain ⟨es, hes⟩ := mth_items hz
        refine e_one st ha fun v H1 B1 τ1 st1 sb1 ee rv => ?_
        refine ⟨tyT x.fz, tyT_or _, tyW_of (.inl rv) st1.wf.sub hes, B1, F, τ1, st1, ms, _, by rw [ee]; exact hc, fun vs H2 B2 ts τ2 al => ?_⟩
        obtain ⟨B3, st3, sb3, _, ee3, r⟩ := al.give
        exact ⟨B3, _, _, m', st3.wf.sub, tyW_of (.inl (rv.mono sb3)) st3.wf.sub hes, .inl (rv.mono sb3), r, hz, fun w H' n => fin_new st3 (sb1.trans sb3) ee3 n q⟩
      · cases e
    · cases e
  · cases e
/-- pure arguments -/
def TQf (K : PySem.W.Frag) (ct : Str → Option Addr) (qs : List SP) : L2.TA := fun σ H Q => ∃ B F τ, St K ct B F σ τ H ∧ ∃ xs, evP qs (erE τ) = some xs ∧ ∀ vs, RepDs K ct B xs vs → Q vs H
theorem q_nil {Q : List V → Hp → Prop} (h : TQf K ct [] σ H Q) : L2.tNil σ H Q := by
  obtain ⟨B, F, τ, st, xs, e, q⟩ := h
  simp only [evP, Option.some.injEq] at e
  subst e
  exact q [] RepDs.nil
theorem q_cons {c : SP} {cs : List SP} {Q : List V → Hp → Prop} (h : TQf K ct (c :: cs) σ H Q) : L2.tCons (TPf K ct c) (TQf K ct cs) σ H Q := by
  obtain ⟨B, F, τ, st, xs, e, q⟩ := h
  simp only [evP] at e
  split at e
  · rename_i x hx
    split at e
    · rename_i ys hy
      cases e
      exact p_one st hx fun v rv => ⟨B, F, τ, st, ys, hy, fun vs rs => q _ (rv |>.mono (Same.refl _) |> fun r => RepDs.cons r rs)⟩
    · cases e
  · cases e
theorem e_mK {m : String} {k : SK} {qs : List SP} {Q : VK} (h : TEf K ct (mK m k qs) σ H Q) : tMth K ct m (TKf K ct k) (TQf K ct qs) σ H Q := by
  obtain ⟨B, F, τ, st, m', e', e, q⟩ := h
  unfold mK at e
  split at e
  · rename_i pv hk
    split at e
    · rename_i x hx
      split at e
      · rename_i ys hc
        split at e
        · rename_i z hz
          cases e
          obtain ⟨es, hes⟩ := mth_items hz
          refine k_read st hk hx fun v rv => ?_
          exact ⟨tyT x, tyT_or _, tyW_of rv st.wf.sub hes, B, F, τ, st, ys, hc, fun vs rs => ⟨B, _, _, m', st.wf.sub, tyW_of rv st.wf.sub hes, rv, rs, hz, fun w H' n => fin_new st (Same.refl _) rfl n q⟩⟩
        · cases e
      · cases e
    · cases e
  · cases e

/-! ### isinstance -/
theorem tyx {d : D} {v : V} {t : String} (h : RepD K ct B d v) (sb : Same B H) (e : tyD d = some t) : L2.TyX K H v (.type t) := by
  cases d with
  | non => unfold RepD at h; cases e; subst h; exact .base .non
  | bl b => unfold RepD at h; cases e; subst h; exact .base (.bl b)
  | int b => unfold RepD at h; cases e; subst h; exact .base (.int b)
  | str b => unfold RepD at h; cases e; subst h; exact .base (.str b)
  | tup ds =>
    unfold RepD at h; cases e
    obtain ⟨a, xs, rfl, hp, _⟩ := h
    rcases hp with ⟨its, hp⟩ | ⟨o, its, n, h1, h2, _⟩
    · exact .fTuple (sb _ _ hp)
    · exact .kTuple h1 h2
  | lst ds =>
    unfold RepD at h; cases e
    obtain ⟨a, xs, rfl, hp, _⟩ := h
    exact .base (.lst (sb _ _ hp))
  | frl ds =>
    unfold RepD at h; cases e
    obtain ⟨a, xs, rfl, hp, _⟩ := h
    rcases sb.seq hp with hp | hp
    · rcases hp with hp | ⟨o, hp⟩
      · exact .base (.lst hp)
      · exact .base (.frz hp)
    · obtain ⟨o, its, n, h1, h2, _⟩ := hp
      exact .kList h1 h2
  | obj c ns ds => cases e
theorem kit_known {t T : String} (ht : t = "NoneType" ∨ t = "int" ∨ t = "bool" ∨ t = "str" ∨ t = "tuple" ∨ t = "list") (hT : known T = true) : L2.kitB t T = some (isB t T) := by
  unfold known at hT
  simp only [Bool.or_eq_true, beq_iff_eq] at hT
  rcases ht with rfl | rfl | rfl | rfl | rfl | rfl <;> rcases hT with (((rfl | rfl) | rfl) | rfl) | rfl <;> decide +kernel
theorem tyD_known {d : D} {t : String} (e : tyD d = some t) : t = "NoneType" ∨ t = "int" ∨ t = "bool" ∨ t = "str" ∨ t = "tuple" ∨ t = "list" := by
  cases d <;> simp [tyD] at e <;> simp [← e]
theorem isTs_some {Ts : List String} {x : D} {m : M} (h : isTs Ts x = some m) : ∃ t, tyD x = some t ∧ (∀ T ∈ Ts, known T = true) ∧ m = .d (.bl (Ts.any (isB t))) := by
  unfold isTs at h
  split at h
  · rename_i t ht
    split at h
    · rename_i hk
      exact ⟨t, ht, by simpa using hk, (Option.some.inj h).symm⟩
    · cases h
  · cases h
theorem e_isi {T : String} {c : SE} {Q : VK} (h : TEf K ct (bV (one (isTs [T])) [c]) σ H Q) : L2.tCB (L2.rIsi K) (L2.tCons (TEf K ct c) (L2.tCons (L2.tC (.ty T)) L2.tNil)) σ H Q := by
  obtain ⟨B, F, τ, st, m, e', e, q⟩ := h
  unfold bV at e
  split at e
  · rename_i ms e1 hc
    simp only [evL] at hc
    split at hc
    · rename_i x e2 hx
      cases hc
      split at e
      · rename_i z hz
        cases e
        refine e_one st hx fun v H1 B1 τ1 st1 sb1 ee rv => ?_
        have hz' : isTs [T] x.fz = some m := by simpa [M.fzs, one] using hz
        obtain ⟨t, ht, hk, rfl⟩ := isTs_some hz'
        exact ⟨v, .ty T, .type t, .type T, isB t T, rfl, .ty T, tyx rv st1.wf.sub ht, L2.kit_ty (kit_known (tyD_known ht) (hk T (by simp))), fin_d st1 sb1 ee (by simpa using (rep_bl : RepD K ct B1 (.bl (isB t T)) _)) (by simpa using q)⟩
      · cases e
    · cases hc
  · cases e
theorem e_isiT {T U : String} {c : SE} {Q : VK} (h : TEf K ct (bV (one (isTs [T, U])) [c]) σ H Q) : L2.tCB (L2.rIsiT K) (L2.tCons (TEf K ct c) (L2.tCons (L2.tTup (L2.tCons (L2.tC (.ty T)) (L2.tCons (L2.tC (.ty U)) L2.tNil))) L2.tNil)) σ H Q := by
  obtain ⟨B, F, τ, st, m, e', e, q⟩ := h
  unfold bV at e
  split at e
  · rename_i ms e1 hc
    simp only [evL] at hc
    split at hc
    · rename_i x e2 hx
      cases hc
      split at e
      · rename_i z hz
        cases e
        refine e_one st hx fun v H1 B1 τ1 st1 sb1 ee rv => ?_
        have hz' : isTs [T, U] x.fz = some m := by simpa [M.fzs, one] using hz
        obtain ⟨t, ht, hk, rfl⟩ := isTs_some hz'
        have k1 := kit_known (tyD_known ht) (hk T (by simp))
        have k2 := kit_known (tyD_known ht) (hk U (by simp))
        refine ⟨by show 2 ≤ sizeLine; decide, fun p hp => ?_⟩
        have st2 := st1.junk (o := .tup [.ty T, .ty U]) hp
        refine ⟨v, p, [.ty T, .ty U], .type t, [.type T, .type U], isB t T || isB t U, rfl, upd_same, .cons (.ty T) (.cons (.ty U) .nil), tyx rv st2.wf.sub ht, ?_, fin_d st2 sb1 ee rep_bl (by simpa using q)⟩
        refine L2.kitAny_cons (L2.kit_ty k1) (fun hb => ?_) fun hb => by rw [hb]; rfl
        rw [hb]
        exact L2.kitAny_cons (L2.kit_ty k2) (fun hb => by rw [hb]; rfl) fun hb => by rw [hb]; rfl
      · cases e
    · cases hc
  · cases e

/-! ### list(range(..)) -/
theorem rangeI_rep (a b : Int) : RepDs K ct B ((rangeI a b).map .int) (L2.rgV a b) := by
  have : L2.rgV a b = (rangeI a b).map V.int := by
    unfold L2.rgV rangeI
    rw [List.map_map]; rfl
  rw [this]; exact RepDs.ints
theorem small_of {a b : Int} (h : smallR a b = true) : -(2 ^ 60) ≤ a ∧ a < 2 ^ 60 ∧ -(2 ^ 60) ≤ b ∧ b < 2 ^ 60 := by
  simp only [smallR, Bool.and_eq_true, decide_eq_true_eq] at h
  omega
theorem rangeL_some {bd : Bool} {ds ys : List D} (h : rangeL bd ds = some ys) : ∃ a b, (ds = [.int b] ∧ a = 0 ∨ ds = [.int a, .int b]) ∧ ys = (rangeI a b).map .int ∧ (-(2 ^ 60) ≤ a ∧ a < 2 ^ 60 ∧ -(2 ^ 60) ≤ b ∧ b < 2 ^ 60) ∧ (bd = true → (b - a).toNat ≤ line) := by
  unfold rangeL at h
  split at h
  · rename_i n
    split at h
    · rename_i hc
      simp only [Bool.and_eq_true, Bool.or_eq_true, Bool.not_eq_true', decide_eq_true_eq] at hc
      refine ⟨0, n, .inl ⟨rfl, rfl⟩, (Option.some.inj h).symm, small_of hc.1, fun hb => ?_⟩
      rcases hc.2 with z | z
      · rw [hb] at z; cases z
      · rw [Int.sub_zero]; exact z
    · cases h
  · rename_i a b
    split at h
    · rename_i hc
      simp only [Bool.and_eq_true, Bool.or_eq_true, Bool.not_eq_true', decide_eq_true_eq] at hc
      refine ⟨a, b, .inr rfl, (Option.some.inj h).symm, small_of hc.1, fun hb => ?_⟩
      rcases hc.2 with z | z
      · rw [hb] at z; cases z
      · exact z
    · cases h
  · cases h
def tRgA (ta : L2.TA) : L2.St → Hp → (Int → Int → Hp → Prop) → Prop := fun σ H Q => ta σ H fun vs H1 => ∃ a b, (vs = [.int b] ∧ a = 0 ∨ vs = [.int a, .int b]) ∧ Q a b H1
theorem rg1_of {t : L2.TE} {Q : Int → Int → Hp → Prop} (h : tRgA (L2.tCons t L2.tNil) σ H Q) (mono : ∀ σ H (Q Q' : VK), t σ H Q → (∀ v H, Q v H → Q' v H) → t σ H Q') : L2.tRg1 t σ H Q :=
  mono _ _ _ _ h fun v H' ⟨a, b, z, q⟩ => by
    rcases z with ⟨z, rfl⟩ | z
    · cases z; exact ⟨b, rfl, q⟩
    · cases z
theorem TEf_mono {f : SE} {Q Q' : VK} (h : TEf K ct f σ H Q) (m : ∀ v H, Q v H → Q' v H) : TEf K ct f σ H Q' := by
  obtain ⟨B, F, τ, st, x, e', e, q⟩ := h
  exact ⟨B, F, τ, st, x, e', e, fun v H' B' t τ' af => m _ _ (q v H' B' t τ' af)⟩
theorem e_lrg {cs : List SE} {Q : VK} (h : TEf K ct (bV lstRange cs) σ H Q) : TAf K ct cs σ H fun vs H1 => ∃ a b, (vs = [.int b] ∧ a = 0 ∨ vs = [.int a, .int b]) ∧ L2.RgOk a b ∧ ∀ q, H1 q = none → Q (.ref q) (upd H1 q (.lst (L2.rgV a b))) := by
  obtain ⟨B, F, τ, st, m, e', e, q⟩ := h
  unfold bV at e
  split at e
  · rename_i ms e1 hc
    split at e
    · rename_i z hz
      cases e
      refine ⟨B, F, τ, st, ms, _, hc, fun vs H1 B1 ts τ1 al => ?_⟩
      obtain ⟨B2, st2, sb2, _, ee, r⟩ := al.give
      unfold lstRange at hz
      split at hz
      · rename_i ys hy
        cases hz
        obtain ⟨a, b, hd, rfl, ⟨h1, h2, h3, h4⟩, h5⟩ := rangeL_some hy
        have h5 := h5 rfl
        have hln : line = 16777216 := rfl
        rw [hln] at h5
        have hvs : vs = [.int b] ∧ a = 0 ∨ vs = [.int a, .int b] := by
          rcases hd with ⟨hd, ha⟩ | hd
          · rw [hd] at r
            unfold RepDs at r
            obtain ⟨v, r', rfl, hv, hr⟩ := r
            unfold RepDs at hr; subst hr
            unfold RepD at hv; subst hv
            exact .inl ⟨rfl, ha⟩
          · rw [hd] at r
            unfold RepDs at r
            obtain ⟨v, r', rfl, hv, hr⟩ := r
            unfold RepDs at hr
            obtain ⟨v', r', rfl, hv', hr⟩ := hr
            unfold RepDs at hr; subst hr
            unfold RepD at hv hv'; subst hv hv'
            exact .inr rfl
        refine ⟨a, b, hvs, ⟨by omega, by omega, by omega, by omega, by omega⟩, fun p hp => ?_⟩
        exact fin_new st2 sb2 ee (new_lst (rangeI_rep a b) hp) q
      · cases hz
    · cases e
  · cases e
theorem a_mono {cs : List SE} {Q Q' : List V → Hp → Prop} (h : TAf K ct cs σ H Q) (m : ∀ v H, Q v H → Q' v H) : TAf K ct cs σ H Q' := by
  obtain ⟨B, F, τ, st, x, e', e, q⟩ := h
  exact ⟨B, F, τ, st, x, e', e, fun v H' B' t τ' af => m _ _ (q v H' B' t τ' af)⟩
theorem e_lrg1 {c : SE} {Q : VK} (h : TEf K ct (bV lstRange [c]) σ H Q) : L2.tLstRg (L2.tRg1 (TEf K ct c)) σ H Q := by
  have := a_cons (e_lrg h)
  refine TEf_mono this fun v H' z => ?_
  obtain ⟨a, b, z, q⟩ := a_nil z
  rcases z with ⟨z, rfl⟩ | z
  · cases z; exact ⟨b, rfl, q⟩
  · cases z
theorem e_lrg2 {c d : SE} {Q : VK} (h : TEf K ct (bV lstRange [c, d]) σ H Q) : L2.tLstRg (L2.tRg2 (TEf K ct c) (TEf K ct d)) σ H Q := by
  have := a_cons (e_lrg h)
  refine TEf_mono this fun v H' z => TEf_mono (a_cons z) fun v2 H2 z => ?_
  obtain ⟨a, b, z, q⟩ := a_nil z
  rcases z with ⟨z, rfl⟩ | z
  · cases z
  · cases z; exact ⟨a, b, rfl, rfl, q⟩

/-! ### tests -/
theorem tru {d : D} {v : V} {b : Bool} (h : RdD K ct B H d v) (sb : Same B H) (e : truth d = some b) : L2.TruV K v H b := by
  rcases h with h | ⟨a, vs, ds, rfl, rfl, hc, r⟩
  · cases d with
    | non => unfold RepD at h; cases e; subst h; rfl
    | bl b => unfold RepD at h; cases e; subst h; rfl
    | int b => unfold RepD at h; cases e; subst h; rfl
    | str b => cases e
    | tup ds =>
      unfold RepD at h; cases e
      obtain ⟨a, xs, rfl, hp, r⟩ := h
      refine .inr (.inl ⟨xs, (hp.mono sb).sq, ?_⟩)
      have := r.length
      cases ds <;> cases xs <;> simp_all
    | lst ds =>
      unfold RepD at h; cases e
      obtain ⟨a, xs, rfl, hp, r⟩ := h
      refine .inl ⟨xs, SqL.of (sb _ _ hp), ?_⟩
      have := r.length
      cases ds <;> cases xs <;> simp_all
    | frl ds =>
      unfold RepD at h; cases e
      obtain ⟨a, xs, rfl, hp, r⟩ := h
      refine .inl ⟨xs, sb.seq hp, ?_⟩
      have := r.length
      cases ds <;> cases xs <;> simp_all
    | obj c ns ds => cases e
  · cases e
    refine .inl ⟨vs, SqL.of hc, ?_⟩
    have := r.length
    cases ds <;> cases vs <;> simp_all
theorem t_v {c : SE} {Q : Bool → Hp → Prop} (h : TTf K ct (tV c) σ H Q) : TEf K ct c σ H fun x H' => ∃ k, L2.TruV K x H' k ∧ Q k H' := by
  obtain ⟨B, F, τ, st, b, e', e, q⟩ := h
  unfold tV at e
  split at e
  · rename_i m e1 hc
    split at e
    · rename_i b' hb
      cases e
      exact e_one st hc fun v H1 B1 τ1 st1 sb1 ee rv => ⟨b, tru (.inl rv) st1.wf.sub hb, q H1 B1 τ1 ⟨st1, sb1, ee⟩⟩
    · cases e
  · cases e
theorem t_k {k : SK} {Q : Bool → Hp → Prop} (h : TTf K ct (tK k) σ H Q) : TKf K ct k σ H fun x H' => ∃ k, L2.TruV K x H' k ∧ Q k H' := by
  obtain ⟨B, F, τ, st, b, e', e, q⟩ := h
  unfold tK at e
  split at e
  · rename_i pv hk
    split at e
    · rename_i x hx
      split at e
      · rename_i b' hb
        cases e
        exact k_read st hk hx fun v rv => ⟨b, tru rv st.wf.sub hb, q H B τ ⟨st, Same.refl _, rfl⟩⟩
      · cases e
    · cases e
  · cases e
/-- a comparison: its value is a bool -/
theorem t_b {c : SE} {Q : Bool → Hp → Prop} (h : TTf K ct (tB c) σ H Q) : TEf K ct c σ H fun x H' => ∃ k, x = .bl k ∧ Q k H' := by
  obtain ⟨B, F, τ, st, b, e', e, q⟩ := h
  unfold tB at e
  split at e
  · rename_i b' e1 hc
    cases e
    exact e_one st hc fun v H1 B1 τ1 st1 sb1 ee rv => by
      simp only [M.fz] at rv
      unfold RepD at rv
      exact ⟨b, rv, q H1 B1 τ1 ⟨st1, sb1, ee⟩⟩
  · cases e
theorem t_and {a b : ST} {Q : Bool → Hp → Prop} (h : TTf K ct (tAnd a b) σ H Q) : L2.tAnd (TTf K ct a) (TTf K ct b) σ H Q := by
  obtain ⟨B, F, τ, st, x, e', e, q⟩ := h
  unfold tAnd at e
  split at e
  · rename_i y e1 ha
    refine ⟨B, F, τ, st, y, e1, ha, fun H1 B1 τ1 af => ?_⟩
    cases y with
    | true =>
      simp only [if_true] at e ⊢
      exact ⟨B1, F, τ1, af.st, x, e', by rw [af.ee]; exact e, fun H2 B2 τ2 ag => q H2 B2 τ2 (AftT.of af.sb ag)⟩
    | false =>
      simp only [Bool.false_eq_true, if_false, Option.some.injEq, Prod.mk.injEq] at e ⊢
      obtain ⟨rfl, rfl⟩ := e
      exact q H1 B1 τ1 af
  · cases e
theorem t_or {a b : ST} {Q : Bool → Hp → Prop} (h : TTf K ct (tOr a b) σ H Q) : L2.tOr (TTf K ct a) (TTf K ct b) σ H Q := by
  obtain ⟨B, F, τ, st, x, e', e, q⟩ := h
  unfold tOr at e
  split at e
  · rename_i y e1 ha
    refine ⟨B, F, τ, st, y, e1, ha, fun H1 B1 τ1 af => ?_⟩
    cases y with
    | false =>
      simp only [Bool.false_eq_true, if_false] at e ⊢
      exact ⟨B1, F, τ1, af.st, x, e', by rw [af.ee]; exact e, fun H2 B2 τ2 ag => q H2 B2 τ2 (AftT.of af.sb ag)⟩
    | true =>
      simp only [if_true, Option.some.injEq, Prod.mk.injEq] at e ⊢
      obtain ⟨rfl, rfl⟩ := e
      exact q H1 B1 τ1 af
  · cases e
theorem t_not {a : ST} {Q : Bool → Hp → Prop} (h : TTf K ct (tNot a) σ H Q) : L2.tNot (TTf K ct a) σ H Q := by
  obtain ⟨B, F, τ, st, x, e', e, q⟩ := h
  unfold tNot at e
  split at e
  · rename_i y e1 ha
    cases e
    exact ⟨B, F, τ, st, y, _, ha, fun H1 B1 τ1 af => q H1 B1 τ1 af⟩
  · cases e
theorem t_yes {Q : Bool → Hp → Prop} (h : TTf K ct tYes σ H Q) : L2.tYes σ H Q := by
  obtain ⟨B, F, τ, st, x, e', e, q⟩ := h
  simp only [tYes, Option.some.injEq, Prod.mk.injEq] at e
  obtain ⟨rfl, rfl⟩ := e
  exact q H B τ ⟨st, Same.refl _, rfl⟩
end
end Ev
set_option Elab.async false
set_option linter.all false
set_option maxRecDepth 100000
set_option maxHeartbeats 2000000
/-! enumerate over a tuple. -/
namespace Ev
open PySem PySem.Spec PyProof.Rows PySem.Calls
open Sem (wp)
open L2 (V HO Hp SqL SqT Same upd upd_same upd_ne Cx PE PT PA PI It Turn FpOk ObjOk Inv RelV Vals VK Gl TI)

theorem meets_en {v : Value} {o : Obj} {Z : Heap → Prop} (Bg : Begins v o Z) :
    Meets (Builtin.«enumerate.__new__» ⟨[.type "enumerate", v], []⟩) (fun _ R s => Z s.heap ∧
      R (.ok (.ret (.ref (s.heap.push o).objs.size))) { s with heap := (s.heap.push o).push { cls := .type "enumerate", data := .fields #[.none, .bool false, .ref s.heap.objs.size, rawInt 0, .none, .none] } }) :=
  .of_wp fun prog w A R s h => by
    obtain ⟨hp, g, d, tk, os⟩ := s
    obtain ⟨z1, z2⟩ := h
    have hsub := sub_enumerate
    have go : ∀ {A2 : Around} {E : Value → Shared → Prop} {Q : Value → Shared → Prop}, Q (.ref hp.objs.size) ⟨hp.push o, g, d, tk, os⟩ → wpAny (model prog w) A2 (pyIter v) Q E ⟨hp, g, d, tk, os⟩ :=
      fun q => Bg.iter prog w _ _ ⟨hp, g, d, tk, os⟩ _ z1 q
    wp_walk using go
    refine wpAny_stack_any fun st => wpAny_pure ?_
    split
    · rename_i c _ _ _ _ _
      cases (c == Value.type "enumerate")
      · wp_walk using go
        exact ⟨_, rfl, z2⟩
      · wp_walk using go
        exact ⟨_, rfl, z2⟩
    · wp_walk using go
      exact ⟨_, rfl, z2⟩

theorem call_en {prog : Program} {w : World} {A : Around} {E : Value → Shared → Prop} {s : Shared} {v : Value} {o : Obj} {Z : Heap → Prop} {Q : Value → Shared → Prop} (Bg : Begins v o Z) (z1 : Z s.heap)
    (k : ∀ h2, IsEnum h2 (s.heap.objs.size + 1) s.heap.objs.size 0 .none → h2.get? s.heap.objs.size = some o → (∀ b u, s.heap.get? b = some u → h2.get? b = some u) → Q (.ref (s.heap.objs.size + 1)) { s with heap := h2 }) :
    wpAny (model prog w) A (call (.type "enumerate") [v]) Q E s := by
  refine callType_new F.called_enumerate (by decide) (F.typeCall_enumerate_1 _) (F.newCall_enumerate_1 _) (fun ob => F.args_object_init_2 ob _) F.entry_enumerate_new (meets_en Bg) ⟨z1, ?_⟩
  have sz : (s.heap.push o).objs.size = s.heap.objs.size + 1 := Heap.size_push ..
  show _ ∧ _
  rw [sz]
  have en : IsEnum ((s.heap.push o).push { cls := .type "enumerate", data := .fields #[.none, .bool false, .ref s.heap.objs.size, rawInt 0, .none, .none] }) (s.heap.objs.size + 1) s.heap.objs.size 0 .none := by
    have z := Heap.get?_push_size (s.heap.push o) (o := { cls := .type "enumerate", data := .fields #[.none, .bool false, .ref s.heap.objs.size, rawInt 0, .none, .none] }) rfl
    rw [sz] at z; exact z
  exact ⟨⟨_, en, rfl⟩, k _ en (Heap.get?_push_of_some _ (Heap.get?_push_size _ Bg.free)) fun b u x => Heap.get?_push_of_some _ (Heap.get?_push_of_some _ x)⟩

/-- what enumerate gives of the tuple at a -/
def ItT (K : PySem.W.Frag) (a : Addr) : It where
  go := fun i H => ∃ xs x, SqT K H a xs ∧ xs[i]? = some x
  yld := fun i H v H' => ∃ T x, v = .ref T ∧ H T = none ∧ H' = upd H T (.tup [.int (i : Nat), x]) ∧ ∀ xs, SqT K H a xs → xs[i]? = some x
  stop := fun i H => ∃ xs, SqT K H a xs ∧ xs.length = i
theorem turn_en {P : Program} {w : World} {K : PySem.W.Frag} {es : List Expr} {kk : Nat} {tp : Pos} (a e it : Addr) :
    Turn P w K (.Tuple es kk tp) (ItT K a) [e, it] e (fun i h => (∃ old, IsEnum h e it ((i : Nat) : Int) old) ∧ h.IsTupleIter it a i ∧ e ≠ it ∧ a ≠ it ∧ e ≠ a) where
  mem := List.mem_cons_self
  obj := fun i h st b hb => by
    obtain ⟨⟨old, en⟩, ⟨o, ho, hcl, hdt⟩, _⟩ := st
    rcases List.mem_cons.mp hb with rfl | hb
    · exact ⟨_, en, fun v q => nomatch q⟩
    · cases List.mem_singleton.mp hb
      exact ⟨o, ho, fun v q => by rw [hdt] at q; cases q⟩
  keep := fun i h h' st k => by
    obtain ⟨⟨old, en⟩, ti, ne⟩ := st
    exact ⟨⟨old, k e List.mem_cons_self _ en⟩, ti.at fun o q => k it (List.mem_cons_of_mem _ List.mem_cons_self) o q, ne⟩
  item := by
    rintro X rfl rfl rfl hc i pins s σ H E I hf ⟨⟨old, en⟩, ti, ne1, ne2, ne3⟩ ⟨xs, x, hq, hx⟩
    obtain ⟨its, rv, pt, _⟩ := I.tuple hq
    obtain ⟨u, hu, ru⟩ := rv.get hx
    have el : e < s.heap.objs.size := Heap.lt_size en
    have il : it < s.heap.objs.size := by obtain ⟨_, q, _⟩ := ti; exact Heap.lt_size q
    have hi : i < its.toArray.size := by
      rw [List.size_toArray]
      by_cases z : i < its.length
      · exact z
      · rw [List.getElem?_eq_none (Nat.le_of_not_lt z)] at hu; cases hu
    have D := Draws.tuple (prog := X.prog) (w := X.w) (A := X.A.in1) (by rw [show X.A.in1.handled = X.A.handled from rfl]; exact I.ok.hd hc) it a ne2 its.toArray
    refine wpAny_pyNext_enum_itemD D en ⟨ti, pt⟩ hi ne1 (by simp [ne1, ne3]) fun y h2 tk hy out st2 hT _ hk => ?_
    have ey : y = u := by
      have hu' : its.toArray[i]? = some u := by simpa using hu
      rw [hu'] at hy; exact (Option.some.inj hy).symm
    subst ey
    refine ⟨_, rfl, wpAny_letOwnedTupleGo_enum (s := { s with heap := h2, toks := tk + 1 }) out fun h3 en3 sb => ?_⟩
    have hT3 : h3.get? s.heap.objs.size = some { cls := .type "tuple", data := .seq #[.int i tk, y] } := (sb.2 _ (Nat.ne_of_gt el)).trans hT
    have fresh : ObjOk X.prog X.w (upd H s.heap.objs.size (.tup [.int (i : Nat), x])) h3 s.heap.objs.size (.tup [.int (i : Nat), x]) :=
      ⟨by show 2 ≤ sizeLine; decide, [.int i tk, y], .cons ⟨_, rfl⟩ (.cons ru .nil), ⟨_, hT3, rfl, _, rfl⟩⟩
    have I3 : Inv X pins σ (upd H s.heap.objs.size (.tup [.int (i : Nat), x])) { s with heap := h3, toks := tk + 1 } :=
      I.turnedNew (ch := [e, it]) (fun b ob hb q => by
        simp only [List.mem_cons, List.not_mem_nil, or_false, not_or] at hb
        exact (sb.2 b hb.1).trans (hk b ob hb.1 hb.2 q)) hf (Nat.le_refl _) fresh
    refine ⟨.ref s.heap.objs.size, _, I3, rfl, ⟨_, x, rfl, I.hok.fresh (Nat.le_refl _), rfl, fun ys hys => by rw [I.tuple_inj hys hq]; exact hx⟩, ⟨⟨y, ?_⟩, st2.1.at fun o q => (sb.2 it (Ne.symm ne1)).trans q, ne1, ne2, ne3⟩, fun b hb => ?_⟩
    · have z : ((i + 1 : Nat) : Int) = (i : Int) + 1 := by omega
      rw [z]; exact en3
    · have hb2 : b < s.heap.objs.size := by
        simp only [List.mem_cons, List.not_mem_nil, or_false] at hb
        rcases hb with rfl | rfl
        · exact el
        · exact il
      rw [upd_ne (Nat.ne_of_lt hb2)]
      exact (hf b hb).1
  done := by
    rintro X rfl rfl rfl hc i pins s σ H E I hf ⟨⟨old, en⟩, ti, ne1, ne2, ne3⟩ ⟨xs, hq, hx⟩
    obtain ⟨its, rv, pt, _⟩ := I.tuple hq
    obtain ⟨f0, f1, f2, f3, f4, f5⟩ := hf it (by simp)
    have hl := rv.length
    have hi : i = its.toArray.size := by rw [List.size_toArray]; omega
    subst hi
    have D := Draws.tuple (prog := X.prog) (w := X.w) (A := X.A.in1) (by rw [show X.A.in1.handled = X.A.handled from rfl]; exact I.ok.hd hc) it a ne2 its.toArray
    exact wpAny_pyNext_enum_endD D en ⟨ti, pt⟩ fun h2 eb => ⟨rfl, I.turned (t' := s.toks) (fun b o hb q => eb b o hb q) f0 f1 f3 f4 f5⟩
  self := fun A i s Q E st h => by obtain ⟨⟨old, en⟩, _⟩ := st; exact wpAny_pyIter_enum en h
/-- enumerate of a list or a tuple -/
def iEnA (K : PySem.W.Frag) (te : L2.TE) : TI := fun σ H R => te σ H fun v H1 => ∃ a xs, v = .ref a ∧ ((SqL K H1 a xs ∧ R (L2.Ite K a) H1) ∨ (SqT K H1 a xs ∧ R (ItT K a) H1))
theorem pi_en {X : Cx} {e : Expr} {te : L2.TE} {p pos tp : Pos} {es : List Expr} {kk : Nat} (hg : Gl X "enumerate") (hm : X.mg "enumerate" = none) (he : PE X e te) (hs : starEach [e] X.env = (false, eval e X.env) :: starEach [] X.env) :
    PI X (.Tuple es kk tp) (.Call (.Name "enumerate" p) [e] [] pos) (iEnA X.K te) := by
  refine ⟨fun pins s σ H R I h => ?_⟩
  refine Call_ (L2.ld_blt I hg hm boot_enumerate (PyProof.Rows.callWith_type1 (args_cons (L2.thn (he.run pins s σ H _ I h) fun u s1 ⟨v, H1, I1, r1, a, xs, ev, q⟩ => args_nil ?_) hs) hs rfl))
  subst ev
  obtain rfl : u = Value.ref a := r1
  have fp2 : ∀ b ∈ [s1.heap.objs.size + 1, s1.heap.objs.size], FpOk X pins H1 b := fun b hb => by
    have z : s1.heap.objs.size ≤ b := by
      simp only [List.mem_cons, List.not_mem_nil, or_false] at hb
      omega
    exact I1.fpOk z (I1.hok.fresh z)
  rcases q with ⟨hq, q⟩ | ⟨hq, q⟩
  · obtain ⟨its, rv, pl, hz⟩ := I1.list hq
    refine call_en (begins_list a its.toArray) pl.isList fun h2 en z k => wpAny_pyIter_enum en ?_
    exact ⟨_, _, _, _, H1, rfl, I1.kept (t' := s1.toks) k, L2.turn_enum a (s1.heap.objs.size + 1) s1.heap.objs.size, ⟨⟨.none, en⟩, ⟨_, z, rfl, rfl⟩, Nat.succ_ne_self _⟩, fp2, q⟩
  · obtain ⟨its, rv, pt, hz⟩ := I1.tuple hq
    have la : a < s1.heap.objs.size := by obtain ⟨_, z, _⟩ := pt; exact Heap.lt_size z
    refine call_en (begins_tuple a its.toArray) pt fun h2 en z k => wpAny_pyIter_enum en ?_
    exact ⟨_, _, _, _, H1, rfl, I1.kept (t' := s1.toks) k, turn_en a (s1.heap.objs.size + 1) s1.heap.objs.size, ⟨⟨.none, en⟩, ⟨_, z, rfl, rfl⟩, Nat.succ_ne_self _, Nat.ne_of_lt la, Nat.ne_of_gt (Nat.lt_succ_of_lt la)⟩, fp2, q⟩
/-- a list or a tuple as it stands -/
def iSeq (K : PySem.W.Frag) (te : L2.TE) : TI := fun σ H R => te σ H fun v H1 => ∃ a xs, v = .ref a ∧ ((SqL K H1 a xs ∧ R (L2.Itl K a) H1) ∨ (SqT K H1 a xs ∧ R (L2.Itt K a) H1))
theorem pi_seq {X : Cx} {tg e : Expr} {te : L2.TE} (he : PE X e te) : PI X tg e (iSeq X.K te) := by
  refine ⟨fun pins s σ H R I h => ?_⟩
  refine L2.thn (he.run pins s σ H _ I h) fun u s1 ⟨v, H1, I1, r1, a, xs, ev, q⟩ => ?_
  subst ev
  obtain rfl : u = Value.ref a := r1
  have fp1 : ∀ b ∈ [s1.heap.objs.size], FpOk X pins H1 b := fun b hb => by
    cases List.mem_singleton.mp hb
    exact I1.fpOk (Nat.le_refl _) (I1.hok.fresh (Nat.le_refl _))
  rcases q with ⟨hq, q⟩ | ⟨hq, q⟩
  · obtain ⟨its, rv, pl, hz⟩ := I1.list hq
    refine wpAny_pyIter_list pl.isList ?_
    exact ⟨_, _, _, _, H1, rfl, I1.kept (t' := s1.toks) fun b o z => Heap.get?_push_of_some _ z, L2.turn_list a _, ⟨_, Heap.get?_push_size _ rfl, rfl, rfl⟩, fp1, q⟩
  · obtain ⟨its, rv, pt, hz⟩ := I1.tuple hq
    refine wpAny_pyIter_tuple (show s1.heap.IsTuple a its.toArray from pt) ?_
    exact ⟨_, _, _, _, H1, rfl, I1.kept (t' := s1.toks) fun b o z => Heap.get?_push_of_some _ z, L2.turn_tuple a _, ⟨_, Heap.get?_push_size _ rfl, rfl, rfl⟩, fp1, q⟩
end Ev
set_option Elab.async false
set_option linter.all false
set_option maxRecDepth 100000
set_option maxHeartbeats 1000000
/-! What is walked; targets; comprehensions. -/
namespace Ev
open PySem PySem.Spec PyProof.Rows PySem.Calls
open L2 (V HO Hp SqL SqT Same upd upd_same upd_ne Cx PE PT PA PI PG It Inv RelV Vals VK Gl TI)

section
variable (K : PySem.W.Frag) (ct : Str → Option Addr)
/-- what is yielded: data, or (where a tuple's items are all that is taken) a new pair -/
def RepY (pl : Bool) (B : Hp) (x : D) (v : V) : Prop := RepD K ct B x v ∨ (pl = true ∧ ∃ ds a vs, x = .tup ds ∧ v = .ref a ∧ SqT K B a vs ∧ RepDs K ct B ds vs)
/-- J gives xs, one after the other, while what B says stands -/
structure WalkD (pl : Bool) (B : Hp) (xs : List D) (J : It) : Prop where
  goes : ∀ i H, i < xs.length → Same B H → J.go i H
  stops : ∀ H, Same B H → J.stop xs.length H
  yields : ∀ i H v H' cs B1, i < xs.length → Same B B1 → Wf B1 cs H → J.yld i H v H' → ∃ B2, Wf B2 cs H' ∧ Same B1 B2 ∧ ∃ x, xs[i]? = some x ∧ RepY K ct pl B2 x v
def TIf (pl : Bool) (f : SI) : TI := fun σ H R => ∃ B F τ, St K ct B F σ τ H ∧ ∃ xs e', f (erE τ) = some (xs, e') ∧ ∀ J H' B' τ', AftT K ct B F σ e' H' B' τ' → WalkD K ct pl B' xs J → R J H'
def TGf (pl : Bool) (g : Tg) : L2.TG := fun v σ H Q => ∃ B F τ, St K ct B F σ τ H ∧ ∃ x e', RepY K ct pl B x v ∧ g.set x (erE τ) = some e' ∧ ∀ σ' τ', St K ct B F σ' τ' H → erE τ' = e' → σ'.length = σ.length → (∀ j, j ∉ g.ns → σ'[j]? = σ[j]?) → Q σ' H
def TGsf (gs : List Tg) : L2.TGs := fun vs σ H Q => ∃ B F τ, St K ct B F σ τ H ∧ ∃ xs e', RepDs K ct B xs vs ∧ Tg.sets gs xs (erE τ) = some e' ∧ ∀ σ' τ', St K ct B F σ' τ' H → erE τ' = e' → σ'.length = σ.length → (∀ j, j ∉ Tg.nss gs → σ'[j]? = σ[j]?) → Q σ' H
end

section
variable {K : PySem.W.Frag} {ct : Str → Option Addr} {B B' H H' : Hp} {F : List Cell} {σ : L2.St} {τ : TE0} {pl : Bool}

/-! ### what is walked -/
theorem sq_tup {B H : Hp} (e : Same B H) {a : Addr} {vs : List V} (h : SqT K B a vs) : SqT K H a vs := by
  rcases h with h | h
  · rcases h with h | ⟨o, h⟩
    · exact .inl (.inl (e _ _ h))
    · exact .inl (.inr ⟨o, e _ _ h⟩)
  · exact .inr h
/-- sequences by what B says -/
theorem rd_seq {d : D} {xs : List D} {v : V} (h : RepD K ct B d v) (e : d.items = some xs) : ∃ a vs, v = .ref a ∧ RepDs K ct B xs vs ∧ (SqL K B a vs ∨ SqT K B a vs) := by
  cases d with
  | tup ds =>
    unfold RepD at h
    obtain ⟨a, vs, rfl, hp, r⟩ := h
    cases e
    exact ⟨a, vs, rfl, r, .inr hp.sq⟩
  | lst ds =>
    unfold RepD at h
    obtain ⟨a, vs, rfl, hp, r⟩ := h
    cases e
    exact ⟨a, vs, rfl, r, .inl (SqL.of hp)⟩
  | frl ds =>
    unfold RepD at h
    obtain ⟨a, vs, rfl, hp, r⟩ := h
    cases e
    exact ⟨a, vs, rfl, r, .inl hp⟩
  | _ => simp [D.items] at e
theorem get_of {xs : List D} {vs : List V} {i : Nat} (r : RepDs K ct B xs vs) (hi : i < xs.length) : ∃ v, vs[i]? = some v ∧ xs[i]? = some xs[i] ∧ RepD K ct B xs[i] v := by
  obtain ⟨v, h1, h2⟩ := r.get (List.getElem?_eq_getElem hi)
  exact ⟨v, h1, List.getElem?_eq_getElem hi, h2⟩
theorem w_list {xs : List D} {vs : List V} {a : Addr} (r : RepDs K ct B xs vs) (h : SqL K B a vs) : WalkD K ct pl B xs (L2.Itl K a) where
  goes := fun i H hi sb => by
    obtain ⟨v, h1, _⟩ := get_of r hi
    exact ⟨vs, v, sb.seq h, h1⟩
  stops := fun H sb => ⟨vs, sb.seq h, Nat.le_of_eq r.length.symm⟩
  yields := fun i H v H' cs B1 hi sb w y => by
    obtain ⟨rfl, y⟩ := y
    obtain ⟨u, h1, h2, h3⟩ := get_of r hi
    have := y vs ((sb.trans w.sub).seq h)
    rw [h1] at this; cases this
    exact ⟨B1, w, Same.refl _, _, h2, .inl (h3.mono sb)⟩
theorem w_tup {xs : List D} {vs : List V} {a : Addr} (r : RepDs K ct B xs vs) (h : SqT K B a vs) : WalkD K ct pl B xs (L2.Itt K a) where
  goes := fun i H hi sb => by
    obtain ⟨v, h1, _⟩ := get_of r hi
    exact ⟨vs, v, sq_tup sb h, h1⟩
  stops := fun H sb => ⟨vs, sq_tup sb h, Nat.le_of_eq r.length.symm⟩
  yields := fun i H v H' cs B1 hi sb w y => by
    obtain ⟨rfl, y⟩ := y
    obtain ⟨u, h1, h2, h3⟩ := get_of r hi
    have := y vs (sq_tup (sb.trans w.sub) h)
    rw [h1] at this; cases this
    exact ⟨B1, w, Same.refl _, _, h2, .inl (h3.mono sb)⟩
theorem w_rng {a b : Int} : WalkD K ct pl B ((rangeI a b).map .int) (L2.Itr a (b - a).toNat) where
  goes := fun i H hi sb => by
    simp only [List.length_map, rangeI, List.length_range] at hi
    exact hi
  stops := fun H sb => by
    show _ ≤ _
    simp only [List.length_map, rangeI, List.length_range]
    exact Nat.le_refl _
  yields := fun i H v H' cs B1 hi sb w y => by
    obtain ⟨rfl, rfl⟩ := y
    simp only [List.length_map, rangeI, List.length_range] at hi
    refine ⟨B1, w, Same.refl _, .int (a + (i : Nat)), ?_, .inl rep_int⟩
    rw [List.getElem?_map, rangeI, List.getElem?_map, List.getElem?_range hi]; rfl
theorem pair_new {x y : D} {v u : V} {T : Addr} {cs : List Cell} (w : Wf B cs H) (hT : H T = none) (rx : RepD K ct B x v) (ry : RepD K ct B y u) :
    ∃ B2, Wf B2 cs (upd H T (.tup [v, u])) ∧ Same B B2 ∧ RepY K ct true B2 (.tup [x, y]) (.ref T) := by
  have sb : Same B (upd B T (.tup [v, u])) := same_upd (w.free hT)
  exact ⟨_, w.shared hT, sb, .inr ⟨rfl, _, T, _, rfl, rfl, SqT.of upd_same, RepDs.cons (rx.mono sb) (RepDs.cons (ry.mono sb) RepDs.nil)⟩⟩
theorem enum_len (xs : List D) : (enumD xs).length = xs.length := by simp [enumD]
theorem enum_get {xs : List D} {i : Nat} (hi : i < xs.length) : (enumD xs)[i]? = some (.tup [.int (i : Nat), xs[i]]) := by
  simp [enumD, List.getElem?_map, List.zip, List.getElem?_zipWith, List.getElem?_range hi, List.getElem?_eq_getElem hi]
theorem w_enumL {xs : List D} {vs : List V} {a : Addr} (r : RepDs K ct B xs vs) (h : SqL K B a vs) : WalkD K ct true B (enumD xs) (L2.Ite K a) where
  goes := fun i H hi sb => by
    rw [enum_len] at hi
    obtain ⟨v, h1, _⟩ := get_of r hi
    exact ⟨vs, v, sb.seq h, h1⟩
  stops := fun H sb => ⟨vs, sb.seq h, by rw [enum_len]; exact Nat.le_of_eq r.length.symm⟩
  yields := fun i H v H' cs B1 hi sb w y => by
    rw [enum_len] at hi
    obtain ⟨T, x, rfl, hT, rfl, y⟩ := y
    obtain ⟨u, h1, h2, h3⟩ := get_of r hi
    have := y vs ((sb.trans w.sub).seq h)
    rw [h1] at this; cases this
    obtain ⟨B2, w2, sb2, ry⟩ := pair_new (x := .int (i : Nat)) (v := .int (i : Nat)) w hT rep_int (h3.mono sb)
    exact ⟨B2, w2, sb2, _, enum_get hi, ry⟩
theorem w_enumT {xs : List D} {vs : List V} {a : Addr} (r : RepDs K ct B xs vs) (h : SqT K B a vs) : WalkD K ct true B (enumD xs) (ItT K a) where
  goes := fun i H hi sb => by
    rw [enum_len] at hi
    obtain ⟨v, h1, _⟩ := get_of r hi
    exact ⟨vs, v, sq_tup sb h, h1⟩
  stops := fun H sb => ⟨vs, sq_tup sb h, by rw [enum_len]; exact r.length.symm⟩
  yields := fun i H v H' cs B1 hi sb w y => by
    rw [enum_len] at hi
    obtain ⟨T, x, rfl, hT, rfl, y⟩ := y
    obtain ⟨u, h1, h2, h3⟩ := get_of r hi
    have := y vs (sq_tup (sb.trans w.sub) h)
    rw [h1] at this; cases this
    obtain ⟨B2, w2, sb2, ry⟩ := pair_new (x := .int (i : Nat)) (v := .int (i : Nat)) w hT rep_int (h3.mono sb)
    exact ⟨B2, w2, sb2, _, enum_get hi, ry⟩
theorem i_v {c : SE} {R : It → Hp → Prop} (h : TIf K ct pl (iV c) σ H R) : iSeq K (TEf K ct c) σ H R := by
  obtain ⟨B, F, τ, st, xs, e', e, q⟩ := h
  unfold iV at e
  split at e
  · rename_i m e1 hf
    split at e
    · rename_i ys hd
      cases e
      refine e_one st hf fun v H1 B1 τ1 st1 sb1 ee rv => ?_
      obtain ⟨a, vs, rfl, r, hs⟩ := rd_seq rv hd
      refine ⟨a, vs, rfl, ?_⟩
      rcases hs with hs | hs
      · exact .inl ⟨st1.wf.sub.seq hs, q _ H1 B1 τ1 ⟨st1, sb1, ee⟩ (w_list r hs)⟩
      · exact .inr ⟨sq_tup st1.wf.sub hs, q _ H1 B1 τ1 ⟨st1, sb1, ee⟩ (w_tup r hs)⟩
    · cases e
  · cases e
theorem i_enum {c : SE} {R : It → Hp → Prop} (h : TIf K ct true (iEnum c) σ H R) : iEnA K (TEf K ct c) σ H R := by
  obtain ⟨B, F, τ, st, xs, e', e, q⟩ := h
  unfold iEnum at e
  split at e
  · rename_i m e1 hf
    split at e
    · rename_i ys hd
      cases e
      refine e_one st hf fun v H1 B1 τ1 st1 sb1 ee rv => ?_
      obtain ⟨a, vs, rfl, r, hs⟩ := rd_seq rv hd
      refine ⟨a, vs, rfl, ?_⟩
      rcases hs with hs | hs
      · exact .inl ⟨st1.wf.sub.seq hs, q _ H1 B1 τ1 ⟨st1, sb1, ee⟩ (w_enumL r hs)⟩
      · exact .inr ⟨sq_tup st1.wf.sub hs, q _ H1 B1 τ1 ⟨st1, sb1, ee⟩ (w_enumT r hs)⟩
    · cases e
  · cases e
theorem i_rng {cs : List SE} {R : It → Hp → Prop} (h : TIf K ct pl (iRng cs) σ H R) : TAf K ct cs σ H fun vs H1 => ∃ a b, (vs = [.int b] ∧ a = 0 ∨ vs = [.int a, .int b]) ∧ (-(2 ^ 62) ≤ a ∧ a < 2 ^ 62 ∧ -(2 ^ 62) ≤ b ∧ b < 2 ^ 62) ∧ R (L2.Itr a (b - a).toNat) H1 := by
  obtain ⟨B, F, τ, st, xs, e', e, q⟩ := h
  unfold iRng at e
  split at e
  · rename_i ms e1 hc
    split at e
    · rename_i ys hy
      cases e
      refine ⟨B, F, τ, st, ms, _, hc, fun vs H1 B1 ts τ1 al => ?_⟩
      obtain ⟨B2, st2, sb2, _, ee, r⟩ := al.give
      obtain ⟨a, b, hd, rfl, ⟨h1, h2, h3, h4⟩, h5⟩ := rangeL_some hy
      have hvs : vs = [.int b] ∧ a = 0 ∨ vs = [.int a, .int b] := by
        rcases hd with ⟨hd, ha⟩ | hd
        · rw [hd] at r
          unfold RepDs at r
          obtain ⟨v, r', rfl, hv, hr⟩ := r
          unfold RepDs at hr; subst hr
          unfold RepD at hv; subst hv
          exact .inl ⟨rfl, ha⟩
        · rw [hd] at r
          unfold RepDs at r
          obtain ⟨v, r', rfl, hv, hr⟩ := r
          unfold RepDs at hr
          obtain ⟨v', r', rfl, hv', hr⟩ := hr
          unfold RepDs at hr; subst hr
          unfold RepD at hv hv'; subst hv hv'
          exact .inr rfl
      exact ⟨a, b, hvs, ⟨by omega, by omega, by omega, by omega⟩, q _ H1 B2 τ1 ⟨st2, sb2, ee⟩ w_rng⟩
    · cases e
  · cases e
theorem i_rng1 {c : SE} {R : It → Hp → Prop} (h : TIf K ct pl (iRng [c]) σ H R) : L2.iRng1 (L2.tCons (TEf K ct c) L2.tNil) σ H R := by
  refine TEf_mono (a_cons (i_rng h)) fun v H' z => ?_
  obtain ⟨a, b, z, h, q⟩ := a_nil z
  rcases z with ⟨z, rfl⟩ | z
  · cases z; exact ⟨b, rfl, h.2.2.1, h.2.2.2, by simpa using q⟩
  · cases z
theorem i_rng2 {c d : SE} {R : It → Hp → Prop} (h : TIf K ct pl (iRng [c, d]) σ H R) : L2.iRng2 (L2.tCons (TEf K ct c) (L2.tCons (TEf K ct d) L2.tNil)) σ H R := by
  refine TEf_mono (a_cons (i_rng h)) fun v H' z => TEf_mono (a_cons z) fun v2 H2 z => ?_
  obtain ⟨a, b, z, h, q⟩ := a_nil z
  rcases z with ⟨z, rfl⟩ | z
  · cases z
  · cases z; exact ⟨a, b, rfl, h, q⟩

/-! ### range with a step -/
theorem w_rngC {a c : Int} {n : Nat} : WalkD K ct pl B (((List.range n).map fun i => a + (i : Nat) * c).map .int) (L2.Itc a c n) where
  goes := fun i H hi sb => by
    simp only [List.length_map, List.length_range] at hi
    exact hi
  stops := fun H sb => by
    show _ ≤ _
    simp only [List.length_map, List.length_range]
    exact Nat.le_refl _
  yields := fun i H v H' cs B1 hi sb w y => by
    obtain ⟨rfl, rfl⟩ := y
    simp only [List.length_map, List.length_range] at hi
    refine ⟨B1, w, Same.refl _, .int (a + (i : Nat) * c), ?_, .inl rep_int⟩
    rw [List.getElem?_map, List.getElem?_map, List.getElem?_range hi]; rfl
theorem rangeC_some {ds ys : List D} (h : rangeC ds = some ys) : ∃ (a b c : Int) (n : Nat), ds = [.int a, .int b, .int c] ∧ ys = ((List.range n).map fun i => a + (i : Nat) * c).map .int ∧ L2.RgC a b c n := by
  unfold rangeC at h
  split at h
  · rename_i a b c
    split at h
    · rename_i hc
      obtain ⟨h1, h2, h3⟩ := hc
      have s := small_of h1
      refine ⟨a, b, c, ((b - a + c - 1) / c).toNat, rfl, (Option.some.inj h).symm, by omega, by omega, ?_, ?_⟩
      · unfold Builtin.Range.small
        unfold Builtin.Range.rangeSize
        simp only [Builtin.Range.rangeFitsLong, Bool.and_eq_true, Bool.or_eq_true, decide_eq_true_eq, beq_iff_eq, show c > 0 by omega, if_true]
        have d1 : (b - a - 1) / c ≤ b - a - 1 ∨ b - a - 1 < 0 := by
          by_cases z : b - a - 1 < 0
          · exact .inr z
          · exact .inl (Int.ediv_le_self _ (by omega))
        split
        · have d0 : 0 ≤ (b - a - 1) / c := Int.ediv_nonneg (by omega) (by omega)
          refine ⟨⟨⟨⟨⟨by omega, by omega⟩, by omega, by omega⟩, by omega, by omega⟩, by omega, by omega⟩, .inr ⟨by omega, by omega⟩⟩
        · refine ⟨⟨⟨⟨⟨by omega, by omega⟩, by omega, by omega⟩, by omega, by omega⟩, by omega, by omega⟩, .inr ⟨by omega, by omega⟩⟩
      · unfold Builtin.Range.rangeSize
        rw [if_pos (by omega)]
        split
        · have e : b - a + c - 1 = (b - a - 1) + c * 1 := by omega
          rw [e, Int.add_mul_ediv_left _ _ (by omega)]
          have d0 : 0 ≤ (b - a - 1) / c := Int.ediv_nonneg (by omega) (by omega)
          omega
        · have : (b - a + c - 1) / c ≤ 0 := by
            by_cases z : 0 ≤ b - a + c - 1
            · rw [Int.ediv_eq_zero_of_lt z (by omega)]; omega
            · have := Int.ediv_neg_of_neg_of_pos (show b - a + c - 1 < 0 by omega) (show 0 < c by omega); omega
          omega
    · split at h
      · rename_i hc
        obtain ⟨h1, rfl⟩ := hc
        have s := small_of h1
        exact ⟨a, b, -1, (a - b).toNat, rfl, (Option.some.inj h).symm, L2.RgC.neg (by omega) (by omega) (by omega) (by omega)⟩
      · cases h
  · cases h
theorem i_rng3 {c d f : SE} {R : It → Hp → Prop} (h : TIf K ct pl (iRngC [c, d, f]) σ H R) : L2.iRng3 (L2.tCons (TEf K ct c) (L2.tCons (TEf K ct d) (L2.tCons (TEf K ct f) L2.tNil))) σ H R := by
  have key : TAf K ct [c, d, f] σ H fun vs H1 => ∃ (i j k : Int) (n : Nat), vs = [.int i, .int j, .int k] ∧ L2.RgC i j k n ∧ R (L2.Itc i k n) H1 := by
    obtain ⟨B, F, τ, st, xs, e', e, q⟩ := h
    unfold iRngC at e
    split at e
    · rename_i ms e1 hc
      split at e
      · rename_i ys hy
        cases e
        refine ⟨B, F, τ, st, ms, _, hc, fun vs H1 B1 ts τ1 al => ?_⟩
        obtain ⟨B2, st2, sb2, _, ee, r⟩ := al.give
        obtain ⟨i, j, k, n, hd, rfl, hr⟩ := rangeC_some hy
        have hvs : vs = [.int i, .int j, .int k] := by
          rw [hd] at r
          unfold RepDs at r
          obtain ⟨v, r', rfl, hv, hr⟩ := r
          unfold RepDs at hr
          obtain ⟨v', r', rfl, hv', hr⟩ := hr
          unfold RepDs at hr
          obtain ⟨v'', r', rfl, hv'', hr⟩ := hr
          unfold RepDs at hr; subst hr
          unfold RepD at hv hv' hv''; subst hv hv' hv''
          rfl
        exact ⟨i, j, k, n, hvs, hr, q _ H1 B2 τ1 ⟨st2, sb2, ee⟩ w_rngC⟩
      · cases e
    · cases e
  refine TEf_mono (a_cons key) fun v H' z => TEf_mono (a_cons z) fun v2 H2 z => TEf_mono (a_cons z) fun v3 H3 z => ?_
  exact a_nil z

/-! ### targets -/
theorem cells_drop {cs : List Cell} {i : Nat} {o : Option MA} (w : Wf B (cellsE τ ++ cs) H) (ho : cellsO o = []) : Wf B (cellsE (τ.set i o) ++ cs) H := by
  cases ht : τ[i]? with
  | none => rw [List.set_eq_of_length_le (by simpa using ht)]; exact w
  | some u =>
    obtain ⟨R, h1, h2⟩ := cellsE_set ht
    have w1 : Wf B (cellsO u ++ (R ++ cs)) H := w.perm (by rw [← List.append_assoc]; exact List.Perm.append_right _ h1)
    refine w1.drop.perm (List.Perm.append_right _ ?_)
    have := h2 o
    rw [ho] at this
    exact this.symm
theorem St.setd (st : St K ct B F σ τ H) {i : Nat} {x : D} {v : V} (r : RepD K ct B x v) : St K ct B F (σ.set i (some v)) (τ.set i (some (.d x v))) H :=
  ⟨cells_drop st.wf (by simp [cellsO, MA.cells]), st.ok.set fun t e => by cases e; unfold MA.ok; exact r, st.rel.set (t := .d x v)⟩
theorem g_name {i : Nat} {v : V} {Q : L2.St → Hp → Prop} (h : TGf K ct false (.n i) v σ H Q) : L2.gName i v σ H Q := by
  obtain ⟨B, F, τ, st, x, e', r, e, q⟩ := h
  simp only [Tg.set, Option.some.injEq] at e
  subst e
  rcases r with r | ⟨z, _⟩
  · refine q _ _ (st.setd r) (by rw [erE_set]; rfl) (by rw [List.length_set]) fun j hj => ?_
    simp only [Tg.ns, List.mem_singleton] at hj
    rw [List.getElem?_set_ne (fun z => hj z.symm)]
  · cases z
theorem sets_len : ∀ {gs : List Tg} {xs : List D} {e e' : Env}, Tg.sets gs xs e = some e' → xs.length = gs.length
  | [], [], _, _, _ => rfl
  | [], _ :: _, _, _, h => by simp [Tg.sets] at h
  | _ :: _, [], _, _, h => by simp [Tg.sets] at h
  | g :: gs, x :: xs, e, e', h => by
    simp only [Tg.sets] at h
    split at h
    · simp [sets_len h]
    · cases h
theorem g_tup {gs : List Tg} {v : V} {Q : L2.St → Hp → Prop} (h : TGf K ct pl (.t gs) v σ H Q) : L2.gTup K gs.length (TGsf K ct gs) v σ H Q := by
  obtain ⟨B, F, τ, st, x, e', r, e, q⟩ := h
  simp only [Tg.set] at e
  split at e
  · rename_i xs
    have seq : ∃ a vs, v = .ref a ∧ SqT K H a vs ∧ RepDs K ct B xs vs := by
      rcases r with r | ⟨_, ds, a, vs, z, rfl, hs, r⟩
      · unfold RepD at r
        obtain ⟨a, vs, rfl, hp, r⟩ := r
        exact ⟨a, vs, rfl, sq_tup st.wf.sub hp.sq, r⟩
      · cases z
        exact ⟨a, vs, rfl, sq_tup st.wf.sub hs, r⟩
    obtain ⟨a, vs, rfl, hs, r⟩ := seq
    refine ⟨a, vs, rfl, hs, by rw [← r.length]; exact sets_len e, B, F, τ, st, xs, e', r, e, fun σ' τ' s1 s2 s3 s4 => q σ' τ' s1 s2 s3 fun j hj => s4 j (by simpa only [Tg.ns] using hj)⟩
  · cases e
theorem gs_nil {vs : List V} {Q : L2.St → Hp → Prop} (h : TGsf K ct [] vs σ H Q) : L2.gNil vs σ H Q := by
  obtain ⟨B, F, τ, st, xs, e', r, e, q⟩ := h
  cases xs with
  | nil =>
    simp only [Tg.sets, Option.some.injEq] at e
    unfold RepDs at r
    exact ⟨r, q σ τ st e rfl fun _ _ => rfl⟩
  | cons x xs => simp [Tg.sets] at e
theorem gs_cons {g : Tg} {gs : List Tg} {vs : List V} {Q : L2.St → Hp → Prop} (h : TGsf K ct (g :: gs) vs σ H Q) : L2.gCons (TGf K ct false g) (TGsf K ct gs) vs σ H Q := by
  obtain ⟨B, F, τ, st, xs, e', r, e, q⟩ := h
  cases xs with
  | nil => simp [Tg.sets] at e
  | cons x xs =>
    unfold RepDs at r
    obtain ⟨v, r', rfl, hv, hr⟩ := r
    simp only [Tg.sets] at e
    split at e
    · rename_i e1 h1
      refine ⟨v, r', rfl, B, F, τ, st, x, e1, .inl hv, h1, fun σ1 τ1 s1 s2 s3 s4 => ?_⟩
      refine ⟨B, F, τ1, s1, xs, e', hr, by rw [s2]; exact e, fun σ2 τ2 t1 t2 t3 t4 => q σ2 τ2 t1 t2 (t3.trans s3) fun j hj => ?_⟩
      simp only [Tg.nss, List.mem_append, not_or] at hj
      exact (t4 j hj.2).trans (s4 j hj.1)
    · cases e
theorem g_weak {g : Tg} {v : V} {Q : L2.St → Hp → Prop} (h : TGf K ct false g v σ H Q) : TGf K ct pl g v σ H Q := by
  obtain ⟨B, F, τ, st, x, e', r, e, q⟩ := h
  refine ⟨B, F, τ, st, x, e', ?_, e, q⟩
  rcases r with r | ⟨z, _⟩
  · exact .inl r
  · cases z

/-! ### comprehensions -/
def wipeT (τ : TE0) : List Nat → TE0
  | [] => τ
  | v :: vs => (wipeT τ vs).set v none
theorem erE_wipe : ∀ {vs : List Nat}, erE (wipeT τ vs) = wipeE (erE τ) vs
  | [] => rfl
  | v :: vs => by simp only [wipeT, wipeE]; rw [erE_set, erE_wipe]; rfl
theorem wipe_get {α : Type} (f : List (Option α) → List Nat → List (Option α)) (h0 : ∀ l, f l [] = l) (h1 : ∀ l v vs, f l (v :: vs) = (f l vs).set v none) :
    ∀ {vs : List Nat} {l : List (Option α)} {j : Nat}, (f l vs).length = l.length ∧ (f l vs)[j]? = if j ∈ vs ∧ j < l.length then some none else l[j]?
  | [], l, j => by simp [h0]
  | v :: vs, l, j => by
    obtain ⟨a, b⟩ := wipe_get f h0 h1 (vs := vs) (l := l) (j := j)
    rw [h1]
    refine ⟨by rw [List.length_set, a], ?_⟩
    by_cases e : v = j
    · subst e
      by_cases hl : v < l.length
      · rw [List.getElem?_set_self (by rw [a]; exact hl)]
        simp [hl]
      · rw [List.getElem?_eq_none (by rw [List.length_set, a]; omega), if_neg (by simp [hl]), List.getElem?_eq_none (by omega)]
    · rw [List.getElem?_set_ne e, b]
      have : j ∈ v :: vs ↔ j ∈ vs := by rw [List.mem_cons]; exact ⟨fun z => z.resolve_left fun q => e q.symm, .inr⟩
      simp only [this]
theorem wT_get {vs : List Nat} {l : TE0} {j : Nat} : (wipeT l vs)[j]? = if j ∈ vs ∧ j < l.length then some none else l[j]? := (wipe_get wipeT (fun _ => rfl) (fun _ _ _ => rfl)).2
theorem wT_len {vs : List Nat} {l : TE0} : (wipeT l vs).length = l.length := (wipe_get wipeT (fun _ => rfl) (fun _ _ _ => rfl) (j := 0)).1
theorem wE_get {vs : List Nat} {l : Env} {j : Nat} : (wipeE l vs)[j]? = if j ∈ vs ∧ j < l.length then some none else l[j]? := (wipe_get wipeE (fun _ => rfl) (fun _ _ _ => rfl)).2
theorem wE_len {vs : List Nat} {l : Env} : (wipeE l vs).length = l.length := (wipe_get wipeE (fun _ => rfl) (fun _ _ _ => rfl) (j := 0)).1
theorem wS_get {vs : List Nat} {l : L2.St} {j : Nat} : (L2.wipe l vs)[j]? = if j ∈ vs ∧ j < l.length then some none else l[j]? := (wipe_get L2.wipe (fun _ => rfl) (fun _ _ _ => rfl)).2
theorem wS_len {vs : List Nat} {l : L2.St} : (L2.wipe l vs).length = l.length := (wipe_get L2.wipe (fun _ => rfl) (fun _ _ _ => rfl) (j := 0)).1
theorem bE_get : ∀ {vs : List Nat} {e0 l : Env} {j : Nat}, (backE e0 l vs).length = l.length ∧ (backE e0 l vs)[j]? = if j ∈ vs ∧ j < l.length then some (e0.getD j none) else l[j]?
  | [], e0, l, j => by simp [backE]
  | v :: vs, e0, l, j => by
    obtain ⟨a, b⟩ := bE_get (vs := vs) (e0 := e0) (l := l) (j := j)
    simp only [backE]
    refine ⟨by rw [List.length_set, a], ?_⟩
    by_cases e : v = j
    · subst e
      by_cases hl : v < l.length
      · rw [List.getElem?_set_self (by rw [a]; exact hl)]
        simp [hl]
      · rw [List.getElem?_eq_none (by rw [List.length_set, a]; omega), if_neg (by simp [hl]), List.getElem?_eq_none (by omega)]
    · rw [List.getElem?_set_ne e, b]
      have : j ∈ v :: vs ↔ j ∈ vs := by rw [List.mem_cons]; exact ⟨fun z => z.resolve_left fun q => e q.symm, .inr⟩
      simp only [this]
theorem back_wipe {e0 e : Env} {vs : List Nat} : backE e0 (wipeE e vs) vs = backE e0 e vs := by
  apply List.ext_getElem?
  intro j
  rw [bE_get.2, bE_get.2, wE_get, wE_len]
  by_cases h : j ∈ vs ∧ j < e.length
  · rw [if_pos h, if_pos h]
  · rw [if_neg h, if_neg h, if_neg h]
def backT (τ0 : TE0) (τ : TE0) : List Nat → TE0
  | [] => τ
  | v :: vs => (backT τ0 τ vs).set v (τ0.getD v none)
theorem erE_back {τ0 : TE0} : ∀ {vs : List Nat}, erE (backT τ0 τ vs) = backE (erE τ0) (erE τ) vs
  | [] => rfl
  | v :: vs => by
    simp only [backT, backE]
    rw [erE_set, erE_back]
    congr 1
    unfold erE
    rw [List.getD_eq_getElem?_getD, List.getD_eq_getElem?_getD, List.getElem?_map]
    cases τ0[v]? with
    | none => rfl
    | some o => rfl
theorem St.wipe (st : St K ct B F σ τ H) : ∀ vs : List Nat, St K ct B F (L2.wipe σ vs) (wipeT τ vs) H
  | [] => st
  | v :: vs => by
    have s := St.wipe st vs
    refine ⟨cells_drop s.wf rfl, s.ok.set fun t e => (nomatch e), ?_⟩
    simp only [L2.wipe, wipeT]
    refine ⟨by rw [List.length_set, List.length_set]; exact s.rel.len, fun i t e => ?_⟩
    by_cases h : v = i
    · subst h
      by_cases hl : v < (wipeT τ vs).length
      · rw [List.getElem?_set_self hl] at e; cases e
      · rw [List.getElem?_eq_none (by simpa using hl)] at e; cases e
    · rw [List.getElem?_set_ne h] at e ⊢
      exact s.rel.at_ i t e
theorem wipe_idem {σ σ2 : L2.St} {vs : List Nat} (hl : σ2.length = σ.length) (h : ∀ j, j ∉ vs → σ2[j]? = (L2.wipe σ vs)[j]?) : L2.wipe σ2 vs = L2.wipe σ vs := by
  apply List.ext_getElem?
  intro j
  rw [wS_get, wS_get]
  by_cases hj : j ∈ vs
  · by_cases h2 : j < σ.length
    · rw [if_pos ⟨hj, by rw [hl]; exact h2⟩, if_pos ⟨hj, h2⟩]
    · rw [if_neg (fun z => h2 (by rw [← hl]; exact z.2)), if_neg (fun z => h2 z.2), List.getElem?_eq_none (by omega), List.getElem?_eq_none (by omega)]
  · rw [if_neg (fun z => hj z.1), if_neg (fun z => hj z.1), h j hj, wS_get, if_neg (fun z => hj z.1)]
theorem slot_get {e : Env} {v : Nat} : e.slot v = (match e[v]? with | some (some m) => some m | _ => none) := rfl
theorem St.back {τ1 : TE0} {B1 H1 : Hp} {F1 F2 : List Cell} (s1 : St K ct B1 F1 σ τ1 H1) {vs : List Nat} (s : St K ct B F2 (L2.wipe σ vs) τ H) (sb : Same B1 B) (fl : flatE (erE τ1) vs = true) : St K ct B F2 σ (backT τ1 τ vs) H := by
  have flat : ∀ v ∈ vs, ∀ t, τ1.getD v none = some t → ∃ x u, t = .d x u ∧ τ1[v]? = some (some t) := fun v hv t e => by
    rw [List.getD_eq_getElem?_getD] at e
    cases h : τ1[v]? with
    | none => rw [h] at e; cases e
    | some o =>
      rw [h] at e
      simp only [Option.getD_some] at e
      subst e
      unfold flatE at fl
      have := List.all_eq_true.mp fl v hv
      rw [slot_erE h] at this
      cases t with
      | d x u => exact ⟨x, u, rfl, rfl⟩
      | lst a ts => simp [MA.er] at this
      | obj c C dx a ns ts => simp [MA.er] at this
  refine ⟨?_, ?_, ?_⟩
  · have : ∀ ws : List Nat, (∀ v ∈ ws, v ∈ vs) → Wf B (cellsE (backT τ1 τ ws) ++ F2) H := by
      intro ws
      induction ws with
      | nil => intro _; exact s.wf
      | cons v ws ih =>
        intro hw
        refine cells_drop (ih fun u hu => hw u (List.mem_cons_of_mem _ hu)) ?_
        cases h : τ1.getD v none with
        | none => rfl
        | some t =>
          obtain ⟨x, u, rfl, _⟩ := flat v (hw v List.mem_cons_self) t h
          simp [cellsO, MA.cells]
    exact this vs fun _ h => h
  · have : ∀ ws : List Nat, (∀ v ∈ ws, v ∈ vs) → OkE K ct B (backT τ1 τ ws) := by
      intro ws
      induction ws with
      | nil => intro _; exact s.ok
      | cons v ws ih =>
        intro hw
        refine (ih fun u hu => hw u (List.mem_cons_of_mem _ hu)).set fun t e => ?_
        obtain ⟨x, u, rfl, h2⟩ := flat v (hw v List.mem_cons_self) t e
        exact (s1.ok v _ h2).mono sb
    exact this vs fun _ h => h
  · have get : ∀ (ws : List Nat) (j : Nat), (backT τ1 τ ws).length = τ.length ∧ (backT τ1 τ ws)[j]? = if j ∈ ws ∧ j < τ.length then some (τ1.getD j none) else τ[j]? := by
      intro ws
      induction ws with
      | nil => intro j; simp [backT]
      | cons v ws ih =>
        intro j
        obtain ⟨a, b⟩ := ih j
        simp only [backT]
        refine ⟨by rw [List.length_set, a], ?_⟩
        by_cases e : v = j
        · subst e
          by_cases hl : v < τ.length
          · rw [List.getElem?_set_self (by rw [a]; exact hl)]; simp [hl]
          · rw [List.getElem?_eq_none (by rw [List.length_set, a]; omega), if_neg (by simp [hl]), List.getElem?_eq_none (by omega)]
        · rw [List.getElem?_set_ne e, b]
          have : j ∈ v :: ws ↔ j ∈ ws := by rw [List.mem_cons]; exact ⟨fun z => z.resolve_left fun q => e q.symm, .inr⟩
          simp only [this]
    have hlen : σ.length = τ.length := by have := s.rel.len; rw [wS_len] at this; exact this
    refine ⟨by rw [(get vs 0).1]; exact hlen, fun i t e => ?_⟩
    rw [(get vs i).2] at e
    split at e
    · rename_i hi
      obtain ⟨x, u, rfl, h2⟩ := flat i hi.1 t (by simpa using e)
      exact s1.rel.at_ i _ h2
    · have := s.rel.at_ i t e
      exact (L2.wipe_some this).1
theorem comp_len {g : Tg} {t : ST} {c : SE} {vs : List Nat} : ∀ {xs : List D} {e e' : Env} {ms : List M}, compL g t c vs xs e = some (ms, e') → ms.length ≤ xs.length
  | [], e, e', ms, h => by simp only [compL, Option.some.injEq, Prod.mk.injEq] at h; rw [← h.1]; simp
  | x :: r, e, e', ms, h => by
    simp only [compL] at h
    split at h
    · cases h
    · split at h
      · cases h
      · have := comp_len h
        simp only [List.length_cons]; omega
      · split at h
        · cases h
        · split at h
          · rename_i h2
            cases h
            have := comp_len h2
            simp only [List.length_cons]; omega
          · cases h
theorem wipeE_sub {vs vs1 : List Nat} (h : ∀ j ∈ vs1, j ∈ vs) (e : Env) : wipeE (wipeE e vs1) vs = wipeE e vs := by
  apply List.ext_getElem?
  intro j
  rw [wE_get, wE_get, wE_get, wE_len]
  by_cases hj : j ∈ vs
  · by_cases h2 : j < e.length
    · simp [hj, h2]
    · simp [h2]
  · have : j ∉ vs1 := fun z => hj (h j z)
    simp [hj, this]
theorem e_comp {vs : List Nat} {it : SI} {g : Tg} {t : ST} {c : SE} {Q : VK} (h : TEf K ct (cComp vs it g t c) σ H Q) : L2.tLc (TIf K ct pl it) (TGf K ct pl g) (TTf K ct t) (TEf K ct c) vs σ H Q := by
  obtain ⟨B, F, τ, st, m, e', e, q⟩ := h
  unfold cComp at e
  split at e
  · cases e
  · rename_i xs e1 hi
    split at e
    · rename_i hc
      obtain ⟨hlen, hfl, hg⟩ := hc
      split at e
      · rename_i ms e2 hL
        cases e
        refine ⟨B, F, τ, st, xs, e1, hi, fun J H1 B1 τ1 af w => ?_⟩
        intro D hD
        have hns : ∀ j, j ∉ vs → j ∉ g.ns := fun j hj hm => hj (by
          have := List.all_eq_true.mp hg j hm
          simpa using this)
        have s1 := af.st
        refine L2.lc_it (Y := J.yld) (n := xs.length) (G := fun H => Same B1 H) ⟨fun i H hi sb => w.goes i H hi sb, fun H sb => w.stops H sb, fun i H x H' _ _ y => y⟩
          (fun i H' => ∃ B' τ' ts ei msr, St K ct B' ((MA.lst D ts).cells ++ F) (L2.wipe σ vs) τ' H' ∧ Same B1 B' ∧ MA.oks K ct B' ts ∧ ts.length ≤ i ∧ wipeE ei vs = erE τ' ∧ compL g t c vs (xs.drop i) ei = some (msr, e2) ∧ MA.ers ts ++ msr = ms) ?_ ?_ ?_ ?_
        · refine ⟨B1, wipeT τ1 vs, [], e1, ms, ?_, Same.refl _, by unfold MA.oks; trivial, Nat.zero_le _, by rw [erE_wipe, af.ee], by simpa using hL, by simp [MA.ers]⟩
          have s2 := s1.wipe vs
          refine St.ofFront ?_ s2.ok s2.rel
          simp only [MA.cells, MA.cellsL, List.map_nil, List.cons_append, List.nil_append]
          exact s2.wf.owned hD
        · rintro i H' hi ⟨B', τ', ts, ei, msr, s2, sb, _⟩
          exact sb.trans s2.wf.sub
        · rintro i v H2 H3 hi ⟨B', τ', ts, ei, msr, s2, sb, oks, htl, hwe, hcl, hms⟩ y
          obtain ⟨B2, w2, sb2, x, hx, ry⟩ := w.yields i H2 v H3 _ B' hi sb s2.wf y
          have s3 : St K ct B2 ((MA.lst D ts).cells ++ F) (L2.wipe σ vs) τ' H3 := ⟨w2, s2.ok.mono sb2, s2.rel⟩
          have hdrop : xs.drop i = x :: xs.drop (i + 1) := by
            rw [List.drop_eq_getElem_cons hi]
            rw [List.getElem?_eq_getElem hi] at hx
            cases hx; rfl
          rw [hdrop] at hcl
          simp only [compL] at hcl
          split at hcl
          · cases hcl
          · rename_i e3 hset
            rw [hwe] at hset
            refine ⟨B2, _, τ', s3, x, e3, ry, hset, fun σ4 τ4 s4 ee4 hl4 hk4 => ?_⟩
            have hw : L2.wipe σ4 vs = L2.wipe σ vs := wipe_idem (by rw [hl4, wS_len]) fun j hj => hk4 j (hns j hj)
            refine ⟨hw, ?_⟩
            split at hcl
            · cases hcl
            · rename_i e5 ht
              refine ⟨B2, _, τ4, s4, false, e5, by rw [ee4]; exact ht, fun H5 B5 τ5 a5 => ?_⟩
              have s5 := a5.st.wipe vs
              rw [hw] at s5
              simp only [Bool.false_eq_true, if_false]
              exact ⟨B5, wipeT τ5 vs, ts, e5, msr, s5, (sb.trans sb2).trans a5.sb, (oks.mono sb2).mono a5.sb, Nat.le_succ_of_le htl, by rw [erE_wipe, a5.ee], hcl, hms⟩
            · rename_i e5 ht
              refine ⟨B2, _, τ4, s4, true, e5, by rw [ee4]; exact ht, fun H5 B5 τ5 a5 => ?_⟩
              simp only [if_true]
              split at hcl
              · cases hcl
              · rename_i mm e6 hcc
                split at hcl
                · rename_i mr e7 hcr
                  cases hcl
                  refine ⟨B5, _, τ5, a5.st, mm, e6, by rw [a5.ee]; exact hcc, fun u H6 B6 tu τ6 a6 => ?_⟩
                  have fr := a6.st.front
                  have own : H6 D = some (.lst (ts.map MA.val)) := (a6.st.wf.own (D, .lst (ts.map MA.val)) (by simp [MA.cells])).1
                  refine ⟨ts.map MA.val, own, by rw [List.length_map, line_eq]; omega, ?_⟩
                  have s6 : St K ct B6 ((MA.lst D (ts ++ [tu])).cells ++ F) σ4 τ6 (upd H6 D (.lst (ts.map MA.val ++ [u]))) := by
                    refine ⟨?_, a6.st.ok, a6.st.rel⟩
                    have w6 : Wf B6 ((D, .lst (ts.map MA.val)) :: (MA.cellsL ts ++ tu.cells ++ (cellsE τ6 ++ F))) H6 := by
                      refine a6.st.wf.perm ?_
                      simp only [MA.cells]
                      have p1 : ∀ (a b c d : List Cell) (x : Cell), (a ++ (b ++ (x :: c ++ d))).Perm (x :: (c ++ b ++ (a ++ d))) := fun a b c d x => by
                        have q1 : (a ++ b ++ x :: (c ++ d)).Perm (x :: (a ++ b ++ (c ++ d))) := List.perm_middle
                        have q2 : (a ++ (b ++ c) ++ d).Perm (b ++ c ++ a ++ d) := List.Perm.append_right _ List.perm_append_comm
                        have q3 : (b ++ c ++ (a ++ d)).Perm (c ++ b ++ (a ++ d)) := List.Perm.append_right _ List.perm_append_comm
                        simp only [List.append_assoc, List.cons_append] at q1 q2 q3 ⊢
                        exact q1.trans (List.Perm.cons _ (q2.trans q3))
                      simpa using p1 (cellsE τ6) tu.cells (MA.cellsL ts) F (D, .lst (ts.map MA.val))
                    have w7 := Wf.write (o' := .lst (ts.map MA.val ++ [u])) w6
                    refine w7.perm ?_
                    simp only [MA.cells, cellsL_app, MA.cellsL, List.append_nil, List.map_append, List.map_cons, List.map_nil]
                    rw [a6.ev]
                    have p2 : ∀ (a c d : List Cell) (x : Cell), (x :: (c ++ (a ++ d))).Perm (a ++ ((x :: c) ++ d)) := fun a c d x => by
                      have : (x :: c ++ (a ++ d)).Perm (a ++ ((x :: c) ++ d)) := by
                        rw [← List.append_assoc, ← List.append_assoc]
                        exact List.Perm.append_right _ List.perm_append_comm
                      exact this
                    exact p2 _ _ _ _
                  have s7 := s6.wipe vs
                  rw [hw] at s7
                  refine ⟨B6, wipeT τ6 vs, ts ++ [tu], e6, mr, s7, ((sb.trans sb2).trans a5.sb).trans a6.sb, ?_, by rw [List.length_append]; exact Nat.succ_le_succ htl, by rw [erE_wipe, a6.ee], hcr, ?_⟩
                  · refine oks_iff.mpr fun z hz => ?_
                    rcases List.mem_append.mp hz with hz | hz
                    · exact ((oks_iff.mp oks z hz).mono sb2 |>.mono a5.sb).mono a6.sb
                    · cases List.mem_singleton.mp hz
                      exact a6.ok
                  · rw [ers_map] at hms ⊢
                    rw [List.map_append, List.append_assoc]
                    simpa [a6.em] using hms
                · cases hcl
        · rintro H2 ⟨B', τ', ts, ei, msr, s2, sb, oks, htl, hwe, hcl, hms⟩
          rw [List.drop_length] at hcl
          simp only [compL, Option.some.injEq, Prod.mk.injEq] at hcl
          obtain ⟨rfl, rfl⟩ := hcl
          rw [List.append_nil] at hms
          have s3 := St.back s1 s2 sb (by rw [af.ee]; exact hfl)
          refine q _ H2 B' (.lst D ts) _ ⟨s3, by unfold MA.ok; exact oks, af.sb.trans sb, ?_, by simp only [MA.er, hms], rfl⟩
          rw [erE_back, af.ee, ← hwe, back_wipe]
      · cases e
    · cases e
theorem e_comp2 {vs vs1 : List Nat} {pl1 : Bool} {it it1 : SI} {g g1 : Tg} {t t1 : ST} {c : SE} {Q : VK} (h : TEf K ct (cComp2 vs vs1 it g t it1 g1 t1 c) σ H Q) : L2.tLc2 (TIf K ct pl it) (TGf K ct pl g) (TTf K ct t) (TIf K ct pl1 it1) (TGf K ct pl1 g1) (TTf K ct t1) (TEf K ct c) vs vs1 σ H Q := by
  obtain ⟨B, F, τ, st, m, e', e, q⟩ := h
  unfold cComp2 at e
  split at e
  · cases e
  · rename_i xs e1 hi
    split at e
    · rename_i hc
      obtain ⟨hlen, hfl, hg, hg1, hv⟩ := hc
      split at e
      · rename_i ms e2 hL
        split at e
        · rename_i hml
          cases e
          refine ⟨B, F, τ, st, xs, e1, hi, fun J H1 B1 τ1 af w => ?_⟩
          intro D hD
          have hns : ∀ j, j ∉ vs → j ∉ g.ns := fun j hj hm => hj (by
            have := List.all_eq_true.mp hg j hm
            simpa using this)
          have hns1 : ∀ j, j ∉ vs1 → j ∉ g1.ns := fun j hj hm => hj (by
            have := List.all_eq_true.mp hg1 j hm
            simpa using this)
          have hvv : ∀ j ∈ vs1, j ∈ vs := fun j hj => by
            have := List.all_eq_true.mp hv j hj
            simpa using this
          have wipe2 : ∀ s : L2.St, L2.wipe (L2.wipe s vs1) vs = L2.wipe s vs := fun s => by
            apply List.ext_getElem?
            intro j
            rw [wS_get, wS_get, wS_len, wS_get]
            by_cases hj : j ∈ vs
            · by_cases h2 : j < s.length
              · simp [hj, h2]
              · simp [h2]
            · have : j ∉ vs1 := fun z => hj (hvv j z)
              simp [hj, this]
          have wipeE2 : ∀ s : Env, wipeE (wipeE s vs1) vs = wipeE s vs := wipeE_sub hvv
          have s1 := af.st
          obtain ⟨Pv, hPv⟩ : ∃ Pv : Nat → Hp → Prop, ∀ i H', Pv i H' ↔ ∃ B' τ' ts ei msr, St K ct B' ((MA.lst D ts).cells ++ F) (L2.wipe σ vs) τ' H' ∧ Same B1 B' ∧ MA.oks K ct B' ts ∧ wipeE ei vs = erE τ' ∧ compL2 g t it1 g1 t1 c vs vs1 (xs.drop i) ei = some (msr, e2) ∧ MA.ers ts ++ msr = ms := ⟨_, fun _ _ => Iff.rfl⟩
          refine ⟨fun i m H' => m = xs.length - i ∧ i ≤ xs.length ∧ Pv i H', ⟨xs.length, by simp, Nat.zero_le _, (hPv _ _).mpr ?_⟩, ?_⟩
          · refine ⟨B1, wipeT τ1 vs, [], e1, ms, ?_, Same.refl _, by unfold MA.oks; trivial, by rw [erE_wipe, af.ee], by simpa using hL, by simp [MA.ers]⟩
            have s2 := s1.wipe vs
            refine St.ofFront ?_ s2.ok s2.rel
            simp only [MA.cells, MA.cellsL, List.map_nil, List.cons_append, List.nil_append]
            exact s2.wf.owned hD
          rintro i m H' ⟨rfl, hile, p⟩
          obtain ⟨B', τ', ts, ei, msr, s2, sb, oks, hwe, hcl, hms⟩ := (hPv _ _).mp p
          have qs : Same B1 H' := sb.trans s2.wf.sub
          by_cases hlt : i < xs.length
          · refine .inr ⟨w.goes i H' hlt qs, Pv (i + 1), fun H'' p' => ⟨xs.length - (i + 1), by omega, rfl, hlt, p'⟩, fun v H3 y => ?_⟩
            obtain ⟨B2, w2, sb2, x, hx, ry⟩ := w.yields i H' v H3 _ B' hlt sb s2.wf y
            have s3 : St K ct B2 ((MA.lst D ts).cells ++ F) (L2.wipe σ vs) τ' H3 := ⟨w2, s2.ok.mono sb2, s2.rel⟩
            have hdrop : xs.drop i = x :: xs.drop (i + 1) := by
              rw [List.drop_eq_getElem_cons hlt]
              rw [List.getElem?_eq_getElem hlt] at hx
              cases hx; rfl
            rw [hdrop] at hcl
            simp only [compL2] at hcl
            split at hcl
            · cases hcl
            · rename_i e3 hset
              rw [hwe] at hset
              refine ⟨B2, _, τ', s3, x, e3, ry, hset, fun σ4 τ4 s4 ee4 hl4 hk4 => ?_⟩
              have hw : L2.wipe σ4 vs = L2.wipe σ vs := wipe_idem (by rw [hl4, wS_len]) fun j hj => hk4 j (hns j hj)
              refine ⟨hw, ?_⟩
              split at hcl
              · cases hcl
              · rename_i e5 ht
                refine ⟨B2, _, τ4, s4, false, e5, by rw [ee4]; exact ht, fun H5 B5 τ5 a5 => ?_⟩
                have s5 := a5.st.wipe vs
                rw [hw] at s5
                simp only [Bool.false_eq_true, if_false]
                exact (hPv _ _).mpr ⟨B5, wipeT τ5 vs, ts, e5, msr, s5, (sb.trans sb2).trans a5.sb, (oks.mono sb2).mono a5.sb, by rw [erE_wipe, a5.ee], hcl, hms⟩
              · rename_i e5 ht
                refine ⟨B2, _, τ4, s4, true, e5, by rw [ee4]; exact ht, fun H5 B5 τ5 a5 => ?_⟩
                simp only [if_true]
                split at hcl
                · cases hcl
                · rename_i ys e6 hit
                  split at hcl
                  · rename_i ms1 e7 hc1
                    split at hcl
                    · rename_i ms2 e8 hc2
                      cases hcl
                      refine ⟨B5, _, τ5, a5.st, ys, e6, by rw [a5.ee]; exact hit, fun J1 H6 B6 τ6 a6 w1 => ?_⟩
                      have sb6 : Same B1 B6 := ((sb.trans sb2).trans a5.sb).trans a6.sb
                      obtain ⟨P1, hP1⟩ : ∃ P1 : Nat → Hp → Prop, ∀ j H', P1 j H' ↔ ∃ B' τ' ts ei msr, St K ct B' ((MA.lst D ts).cells ++ F) (L2.wipe σ4 vs1) τ' H' ∧ Same B6 B' ∧ MA.oks K ct B' ts ∧ wipeE ei vs1 = erE τ' ∧ compL g1 t1 c vs1 (ys.drop j) ei = some (msr, e7) ∧ MA.ers ts ++ msr ++ ms2 = ms := ⟨_, fun _ _ => Iff.rfl⟩
                      refine ⟨fun j k H' => k = ys.length - j ∧ j ≤ ys.length ∧ P1 j H', ⟨ys.length, by simp, Nat.zero_le _, (hP1 _ _).mpr ⟨B6, wipeT τ6 vs1, ts, e6, ms1, a6.st.wipe vs1, Same.refl _, ((oks.mono sb2).mono a5.sb).mono a6.sb, by rw [erE_wipe, a6.ee], by simpa using hc1, by rw [List.append_assoc]; exact hms⟩⟩, ?_⟩
                      rintro j k H7 ⟨rfl, hjle, p1⟩
                      obtain ⟨B7, τ7, ts7, ei7, msr7, s7, sb7, oks7, hwe7, hcl7, hms7⟩ := (hP1 _ _).mp p1
                      have qs7 : Same B6 H7 := sb7.trans s7.wf.sub
                      by_cases hlt7 : j < ys.length
                      · refine .inr ⟨w1.goes j H7 hlt7 qs7, P1 (j + 1), fun H'' p' => ⟨ys.length - (j + 1), by omega, rfl, hlt7, p'⟩, fun v1 H8 y1 => ?_⟩
                        obtain ⟨B8, w8, sb8, x8, hx8, ry8⟩ := w1.yields j H7 v1 H8 _ B7 hlt7 sb7 s7.wf y1
                        have s8 : St K ct B8 ((MA.lst D ts7).cells ++ F) (L2.wipe σ4 vs1) τ7 H8 := ⟨w8, s7.ok.mono sb8, s7.rel⟩
                        have hdrop8 : ys.drop j = x8 :: ys.drop (j + 1) := by
                          rw [List.drop_eq_getElem_cons hlt7]
                          rw [List.getElem?_eq_getElem hlt7] at hx8
                          cases hx8; rfl
                        rw [hdrop8] at hcl7
                        simp only [compL] at hcl7
                        split at hcl7
                        · cases hcl7
                        · rename_i e9 hset9
                          rw [hwe7] at hset9
                          refine ⟨B8, _, τ7, s8, x8, e9, ry8, hset9, fun σ9 τ9 s9 ee9 hl9 hk9 => ?_⟩
                          have hw9 : L2.wipe σ9 vs1 = L2.wipe σ4 vs1 := wipe_idem (by rw [hl9, wS_len]) fun j hj => hk9 j (hns1 j hj)
                          refine ⟨hw9, ?_⟩
                          split at hcl7
                          · cases hcl7
                          · rename_i e10 ht10
                            refine ⟨B8, _, τ9, s9, false, e10, by rw [ee9]; exact ht10, fun H10 B10 τ10 a10 => ?_⟩
                            have s10 := a10.st.wipe vs1
                            rw [hw9] at s10
                            simp only [Bool.false_eq_true, if_false]
                            exact (hP1 _ _).mpr ⟨B10, wipeT τ10 vs1, ts7, e10, msr7, s10, (sb7.trans sb8).trans a10.sb, (oks7.mono sb8).mono a10.sb, by rw [erE_wipe, a10.ee], hcl7, hms7⟩
                          · rename_i e10 ht10
                            refine ⟨B8, _, τ9, s9, true, e10, by rw [ee9]; exact ht10, fun H10 B10 τ10 a10 => ?_⟩
                            simp only [if_true]
                            split at hcl7
                            · cases hcl7
                            · rename_i mm e11 hcc
                              split at hcl7
                              · rename_i mr e12 hcr
                                cases hcl7
                                refine ⟨B10, _, τ10, a10.st, mm, e11, by rw [a10.ee]; exact hcc, fun u H11 B11 tu τ11 a11 => ?_⟩
                                have fr := a11.st.front
                                have own : H11 D = some (.lst (ts7.map MA.val)) := (a11.st.wf.own (D, .lst (ts7.map MA.val)) (by simp [MA.cells])).1
                                have tl : ts7.length < line := by
                                  have e := congrArg List.length hms7
                                  rw [ers_map] at e
                                  simp only [List.length_append, List.length_map, List.length_cons] at e
                                  omega
                                refine ⟨ts7.map MA.val, own, by rw [List.length_map, line_eq]; exact tl, ?_⟩
                                have s12 : St K ct B11 ((MA.lst D (ts7 ++ [tu])).cells ++ F) σ9 τ11 (upd H11 D (.lst (ts7.map MA.val ++ [u]))) := by
                                  refine ⟨?_, a11.st.ok, a11.st.rel⟩
                                  have w6 : Wf B11 ((D, .lst (ts7.map MA.val)) :: (MA.cellsL ts7 ++ tu.cells ++ (cellsE τ11 ++ F))) H11 := by
                                    refine a11.st.wf.perm ?_
                                    simp only [MA.cells]
                                    have p1 : ∀ (a b c d : List Cell) (x : Cell), (a ++ (b ++ (x :: c ++ d))).Perm (x :: (c ++ b ++ (a ++ d))) := fun a b c d x => by
                                      have q1 : (a ++ b ++ x :: (c ++ d)).Perm (x :: (a ++ b ++ (c ++ d))) := List.perm_middle
                                      have q2 : (a ++ (b ++ c) ++ d).Perm (b ++ c ++ a ++ d) := List.Perm.append_right _ List.perm_append_comm
                                      have q3 : (b ++ c ++ (a ++ d)).Perm (c ++ b ++ (a ++ d)) := List.Perm.append_right _ List.perm_append_comm
                                      simp only [List.append_assoc, List.cons_append] at q1 q2 q3 ⊢
                                      exact q1.trans (List.Perm.cons _ (q2.trans q3))
                                    simpa using p1 (cellsE τ11) tu.cells (MA.cellsL ts7) F (D, .lst (ts7.map MA.val))
                                  have w7 := Wf.write (o' := .lst (ts7.map MA.val ++ [u])) w6
                                  refine w7.perm ?_
                                  simp only [MA.cells, cellsL_app, MA.cellsL, List.append_nil, List.map_append, List.map_cons, List.map_nil]
                                  rw [a11.ev]
                                  have p2 : ∀ (a c d : List Cell) (x : Cell), (x :: (c ++ (a ++ d))).Perm (a ++ ((x :: c) ++ d)) := fun a c d x => by
                                    have : (x :: c ++ (a ++ d)).Perm (a ++ ((x :: c) ++ d)) := by
                                      rw [← List.append_assoc, ← List.append_assoc]
                                      exact List.Perm.append_right _ List.perm_append_comm
                                    exact this
                                  exact p2 _ _ _ _
                                have s13 := s12.wipe vs1
                                rw [hw9] at s13
                                refine (hP1 _ _).mpr ⟨B11, wipeT τ11 vs1, ts7 ++ [tu], e11, mr, s13, ((sb7.trans sb8).trans a10.sb).trans a11.sb, ?_, by rw [erE_wipe, a11.ee], hcr, ?_⟩
                                · refine oks_iff.mpr fun z hz => ?_
                                  rcases List.mem_append.mp hz with hz | hz
                                  · exact ((oks_iff.mp oks7 z hz).mono sb8 |>.mono a10.sb).mono a11.sb
                                  · cases List.mem_singleton.mp hz
                                    exact a11.ok
                                · rw [ers_map] at hms7 ⊢
                                  rw [List.map_append, List.append_assoc, List.append_assoc]
                                  rw [List.append_assoc] at hms7
                                  simpa [a11.em] using hms7
                              · cases hcl7
                      · have ej : j = ys.length := by omega
                        subst ej
                        refine .inl ⟨w1.stops H7 qs7, (hPv _ _).mpr ?_⟩
                        rw [List.drop_length] at hcl7
                        simp only [compL, Option.some.injEq, Prod.mk.injEq] at hcl7
                        obtain ⟨rfl, rfl⟩ := hcl7
                        rw [List.append_nil] at hms7
                        have s10 := s7.wipe vs
                        rw [wipe2, hw] at s10
                        exact ⟨B7, wipeT τ7 vs, ts7, ei7, ms2, s10, sb6.trans sb7, oks7, by rw [erE_wipe, ← hwe7, wipeE2], hc2, hms7⟩
                    · cases hcl
                  · cases hcl
          · have ei : i = xs.length := by omega
            subst ei
            refine .inl ⟨w.stops H' qs, ?_⟩
            rw [List.drop_length] at hcl
            simp only [compL2, Option.some.injEq, Prod.mk.injEq] at hcl
            obtain ⟨rfl, rfl⟩ := hcl
            rw [List.append_nil] at hms
            have s3 := St.back s1 s2 sb (by rw [af.ee]; exact hfl)
            refine q _ H' B' (.lst D ts) _ ⟨s3, by unfold MA.ok; exact oks, af.sb.trans sb, ?_, by simp only [MA.er, hms], rfl⟩
            rw [erE_back, af.ee, ← hwe, back_wipe]
        · cases e
      · cases e
    · cases e
end
end Ev
set_option Elab.async false
set_option linter.all false
set_option maxRecDepth 100000
set_option maxHeartbeats 1000000
/-! Statements. -/
namespace Ev
open PySem PySem.Spec PyProof.Rows PySem.Calls
open L2 (V HO Hp SqL SqT Same upd upd_same upd_ne Cx PE PT PA PI PG PS PSs Ends It Inv RelV Vals VK Gl TI)

section
variable (K : PySem.W.Frag) (ct : Str → Option Addr) (fx : List Nat)
/-- behind a statement; the slots fx are bound as they were -/
structure AftS (B : Hp) (F : List Cell) (σ : L2.St) (e : Env) (σ' : L2.St) (H' B' : Hp) (τ' : TE0) : Prop where
  st : St K ct B' F σ' τ' H'
  sb : Same B B'
  ee : erE τ' = e
  kp : ∀ i ∈ fx, σ'[i]? = σ[i]?
/-- behind a return -/
structure AftR (B : Hp) (F : List Cell) (σ : L2.St) (m : M) (e : Env) (v : V) (σ' : L2.St) (H' B' : Hp) (t : MA) (τ' : TE0) : Prop where
  a : Aft K ct B F σ' m e v H' B' t τ'
  kp : ∀ i ∈ fx, σ'[i]? = σ[i]?
def EndsD (B : Hp) (F : List Cell) (σ : L2.St) (r : R) (D : Ends) : Prop := match r with
  | .nx e => ∀ σ' H' B' τ', AftS K ct fx B F σ e σ' H' B' τ' → D.nx σ' H'
  | .bk e => ∀ σ' H' B' τ', AftS K ct fx B F σ e σ' H' B' τ' → D.bk σ' H'
  | .ct e => ∀ σ' H' B' τ', AftS K ct fx B F σ e σ' H' B' τ' → D.ct σ' H'
  | .rt m e => ∀ v σ' H' B' t τ', AftR K ct fx B F σ m e v σ' H' B' t τ' → D.rt v H'
def TSf (f : SS) : L2.TS := fun D σ H => ∃ B F τ, St K ct B F σ τ H ∧ ∃ r, f (erE τ) = some r ∧ EndsD K ct fx B F σ r D
end
section
variable {K : PySem.W.Frag} {ct : Str → Option Addr} {fx : List Nat} {B B' H H' : Hp} {F : List Cell} {σ σ' : L2.St} {τ : TE0} {pl : Bool} {D : Ends}

theorem EndsD.mono {r : R} (h : EndsD K ct fx B F σ r D) (sb : Same B B') (kp : ∀ i ∈ fx, σ'[i]? = σ[i]?) : EndsD K ct fx B' F σ' r D := by
  cases r with
  | nx e => exact fun σ2 H2 B2 τ2 a => h σ2 H2 B2 τ2 ⟨a.st, sb.trans a.sb, a.ee, fun i hi => (a.kp i hi).trans (kp i hi)⟩
  | bk e => exact fun σ2 H2 B2 τ2 a => h σ2 H2 B2 τ2 ⟨a.st, sb.trans a.sb, a.ee, fun i hi => (a.kp i hi).trans (kp i hi)⟩
  | ct e => exact fun σ2 H2 B2 τ2 a => h σ2 H2 B2 τ2 ⟨a.st, sb.trans a.sb, a.ee, fun i hi => (a.kp i hi).trans (kp i hi)⟩
  | rt m e => exact fun v σ2 H2 B2 t τ2 a => h v σ2 H2 B2 t τ2 ⟨Aft.of sb a.a, fun i hi => (a.kp i hi).trans (kp i hi)⟩
/-- the ends at which a part leaves to a whole -/
theorem EndsD.nxt {r : R} {N : L2.St → Hp → Prop} (h : EndsD K ct fx B F σ r D) (hr : ∀ e, r ≠ .nx e) : EndsD K ct fx B F σ r { D with nx := N } := by
  cases r with
  | nx e => exact absurd rfl (hr e)
  | bk e => exact h
  | ct e => exact h
  | rt m e => exact h
theorem s_skip (h : TSf K ct fx sSkip D σ H) : L2.tNext D σ H := by
  obtain ⟨B, F, τ, st, r, e, q⟩ := h
  simp only [sSkip, Option.some.injEq] at e
  subst e
  exact q σ H B τ ⟨st, Same.refl _, rfl, fun _ _ => rfl⟩
theorem s_break (h : TSf K ct fx sBreak D σ H) : L2.tBreak D σ H := by
  obtain ⟨B, F, τ, st, r, e, q⟩ := h
  simp only [sBreak, Option.some.injEq] at e
  subst e
  exact q σ H B τ ⟨st, Same.refl _, rfl, fun _ _ => rfl⟩
theorem s_cont (h : TSf K ct fx sCont D σ H) : L2.tCont D σ H := by
  obtain ⟨B, F, τ, st, r, e, q⟩ := h
  simp only [sCont, Option.some.injEq] at e
  subst e
  exact q σ H B τ ⟨st, Same.refl _, rfl, fun _ _ => rfl⟩
theorem s_fail (h : TSf K ct fx sFail D σ H) : L2.tNever D σ H := by
  obtain ⟨B, F, τ, st, r, e, q⟩ := h
  cases e
theorem s_seq {a b : SS} (h : TSf K ct fx (sSeq a b) D σ H) : L2.tSeq (TSf K ct fx a) (TSf K ct fx b) D σ H := by
  obtain ⟨B, F, τ, st, r, e, q⟩ := h
  unfold sSeq at e
  cases ha : a (erE τ) with
  | none => rw [ha] at e; cases e
  | some r1 =>
    rw [ha] at e
    refine ⟨B, F, τ, st, r1, ha, ?_⟩
    cases r1 with
    | nx e1 =>
      intro σ1 H1 B1 τ1 a1
      exact ⟨B1, F, τ1, a1.st, r, by rw [a1.ee]; exact e, q.mono a1.sb a1.kp⟩
    | bk e1 => cases e; exact q
    | ct e1 => cases e; exact q
    | rt m e1 => cases e; exact q
theorem s_drop {c : SE} (h : TSf K ct fx (sDrop c) D σ H) : L2.tDrop (TEf K ct c) D σ H := by
  obtain ⟨B, F, τ, st, r, e, q⟩ := h
  unfold sDrop at e
  split at e
  · rename_i m e1 hc
    cases e
    refine ⟨B, F, τ, st, m, e1, hc, fun v H1 B1 t τ1 af => ?_⟩
    have d := af.drop
    exact q σ H1 B1 τ1 ⟨d.st, d.sb, d.ee, fun _ _ => rfl⟩
  · cases e
/-- a new tree in a slot -/
theorem St.sett {t : MA} {i : Nat} (st : St K ct B (t.cells ++ F) σ τ H) (ok : t.ok K ct B) : St K ct B F (σ.set i (some t.val)) (τ.set i (some t)) H := by
  refine ⟨?_, st.ok.set fun u e => by cases e; exact ok, st.rel.set⟩
  cases ht : τ[i]? with
  | none =>
    rw [List.set_eq_of_length_le (by simpa using ht)]
    exact st.front.drop
  | some u =>
    obtain ⟨R, h1, h2⟩ := cellsE_set ht
    have w1 : Wf B (cellsO u ++ (R ++ (t.cells ++ F))) H := st.wf.perm (by simpa only [List.append_assoc] using List.Perm.append_right (t.cells ++ F) h1)
    refine w1.drop.perm ?_
    have h3 := h2 (some t)
    simp only [cellsO] at h3
    refine List.Perm.trans ?_ (List.Perm.append_right F h3.symm)
    rw [← List.append_assoc]
    exact List.Perm.append_right _ List.perm_append_comm
theorem s_asg {i : Nat} {c : SE} (hi : i ∉ fx) (h : TSf K ct fx (sAsg i c) D σ H) : L2.tAsg (TEf K ct c) (L2.gName i) D σ H := by
  obtain ⟨B, F, τ, st, r, e, q⟩ := h
  unfold sAsg at e
  split at e
  · rename_i m e1 hc
    cases e
    refine ⟨B, F, τ, st, m, e1, hc, fun v H1 B1 t τ1 af => ?_⟩
    have s1 := St.sett (i := i) af.st af.ok
    rw [af.ev] at s1
    exact q _ H1 B1 _ ⟨s1, af.sb, by rw [erE_set, af.ee, Option.map_some, af.em], fun j hj => List.getElem?_set_ne (fun z => by subst z; exact hi hj)⟩
  · cases e
theorem s_tgt {g : Tg} {c : SE} (hg : ∀ j ∈ g.ns, j ∉ fx) (h : TSf K ct fx (sTgt g c) D σ H) : L2.tAsg (TEf K ct c) (TGf K ct pl g) D σ H := by
  obtain ⟨B, F, τ, st, r, e, q⟩ := h
  unfold sTgt at e
  split at e
  · rename_i m e1 hc
    split at e
    · rename_i e2 hs
      cases e
      refine e_one st hc fun v H1 B1 τ1 st1 sb1 ee rv => ?_
      exact ⟨B1, F, τ1, st1, _, e2, .inl rv, by rw [ee]; exact hs, fun σ2 τ2 s2 ee2 _ kp => q σ2 H1 B1 τ2 ⟨s2, sb1, ee2, fun j hj => kp j fun z => hg j z hj⟩⟩
    · cases e
  · cases e
theorem s_ret {c : SE} (h : TSf K ct fx (sRet c) D σ H) : L2.tRet (TEf K ct c) D σ H := by
  obtain ⟨B, F, τ, st, r, e, q⟩ := h
  unfold sRet at e
  split at e
  · rename_i m e1 hc
    cases e
    exact ⟨B, F, τ, st, m, e1, hc, fun v H1 B1 t τ1 af => q v σ H1 B1 t τ1 ⟨af, fun _ _ => rfl⟩⟩
  · cases e
theorem s_retN (h : TSf K ct fx sRetN D σ H) : L2.tRetN D σ H := by
  obtain ⟨B, F, τ, st, r, e, q⟩ := h
  simp only [sRetN, Option.some.injEq] at e
  subst e
  exact q .non σ H B _ τ ⟨aft_d st (by unfold RepD; rfl), fun _ _ => rfl⟩
theorem s_retV {i : Nat} (h : TSf K ct fx (sRetV i) D σ H) : L2.tRet (L2.tVar i) D σ H := by
  obtain ⟨B, F, τ, st, r, e, q⟩ := h
  unfold sRetV at e
  split at e
  · rename_i m hm
    cases e
    obtain ⟨t, ht, rfl⟩ := erE_slot hm
    refine ⟨t.val, st.rel.at_ i t ht, q _ σ H B t (τ.set i none) ⟨⟨?_, st.ok i t ht, Same.refl _, by rw [erE_set]; rfl, rfl, rfl⟩, fun _ _ => rfl⟩⟩
    obtain ⟨R, h1, h2⟩ := cellsE_set ht
    have h3 := h2 none
    refine ⟨st.wf.perm ?_, st.ok.set fun u z => (nomatch z), st.rel.keep fun u z => (nomatch z)⟩
    simp only [cellsO, List.nil_append] at h1 h3
    refine (List.Perm.append_right F h1).trans ?_
    refine List.Perm.trans ?_ (List.Perm.append_right _ h3.symm)
    rw [← List.append_assoc]
    exact List.Perm.append_right _ List.perm_append_comm
  · cases e
theorem s_if {t : ST} {a b : SS} (h : TSf K ct fx (sIf t a b) D σ H) : L2.tIfS (TTf K ct t) (TSf K ct fx a) (TSf K ct fx b) D σ H := by
  obtain ⟨B, F, τ, st, r, e, q⟩ := h
  unfold sIf at e
  split at e
  · rename_i x e1 ht
    refine ⟨B, F, τ, st, x, e1, ht, fun H1 B1 τ1 af => ?_⟩
    cases x with
    | true =>
      simp only [if_true] at e ⊢
      exact ⟨B1, F, τ1, af.st, r, by rw [af.ee]; exact e, q.mono af.sb fun _ _ => rfl⟩
    | false =>
      simp only [Bool.false_eq_true, if_false] at e ⊢
      exact ⟨B1, F, τ1, af.st, r, by rw [af.ee]; exact e, q.mono af.sb fun _ _ => rfl⟩
  · cases e
theorem s_assert {t : ST} (h : TSf K ct fx (sAssert t) D σ H) : L2.tAssert (TTf K ct t) D σ H := by
  obtain ⟨B, F, τ, st, r, e, q⟩ := h
  unfold sAssert at e
  split at e
  · rename_i e1 ht
    cases e
    exact ⟨B, F, τ, st, true, e1, ht, fun H1 B1 τ1 af => ⟨rfl, q σ H1 B1 τ1 ⟨af.st, af.sb, af.ee, fun _ _ => rfl⟩⟩⟩
  · cases e

/-! ### changes in place -/
theorem t_lst {t : MA} {m : List M} (h : t.er = .lst m) : ∃ a ts, t = .lst a ts ∧ MA.ers ts = m := by
  cases t with
  | d x v => simp [MA.er] at h
  | lst a ts => exact ⟨a, ts, rfl, by simpa [MA.er] using h⟩
  | obj c C dx a ns ts => simp [MA.er] at h
theorem s_idx {k : SK} {qi : SP} {c : SE} (h : TSf K ct fx (sIdx k qi c) D σ H) : L2.tAsg (TEf K ct c) (L2.gSub (TKf K ct k) (TPf K ct qi) L2.rSetL) D σ H := by
  obtain ⟨B, F, τ, st, r, e, q⟩ := h
  unfold sIdx at e
  split at e
  · rename_i x e1 hc
    split at e
    · rename_i i p hk
      split at e
      · rename_i n hq
        split at e
        · rename_i m hm
          split at e
          · rename_i m' hm'
            cases e
            refine ⟨B, F, τ, st, x, e1, hc, fun v H1 B1 tx τ1 af => ?_⟩
            rw [← af.ee] at hk hq hm
            have s1 : St K ct B1 (tx.cells ++ F) σ τ1 H1 := af.st
            refine ⟨B1, _, τ1, s1, _, hk, fun o ho => ?_⟩
            obtain ⟨t, s, ht, hs, hv⟩ := ho
            refine ⟨B1, _, τ1, s1, _, hq, fun iv hi => ?_⟩
            unfold RepD at hi
            subst hi
            rw [at_erE ht hs] at hm
            cases hm
            unfold M.setI at hm'
            split at hm'
            · rename_i ms hms
              obtain ⟨a, ts, rfl, hts⟩ := t_lst hms
              split at hm'
              · rename_i j hj
                cases hm'
                have hv2 : V.ref a = o := hv
                subst hv2
                have hjl := (L2.ixN_seq hj).2.1
                rw [← hts, ers_map, List.length_map] at hj hjl
                refine ⟨a, ts.map MA.val, n, j, rfl, rfl, cell_of s1 ht hs (a, _) (by simp [MA.cells]), by rw [List.length_map]; exact hj, ?_⟩
                have hu : ts[j]? = some ts[j] := List.getElem?_eq_getElem hjl
                obtain ⟨R0, z1, z2⟩ := cellsL_set hu
                -- the new container
                have s2 : St K ct B1 F σ (τ1.set i (some (t.put p (.lst a (ts.set j tx))))) (upd H1 a (.lst ((ts.map MA.val).set j v))) := by
                  obtain ⟨R1, y1, y2⟩ := cellsE_set ht
                  obtain ⟨R2, x1, x2⟩ := put_cells hs
                  have hok := ok_sub hs (s1.ok i t ht)
                  unfold MA.ok at hok
                  refine ⟨?_, s1.ok.set fun u z => ?_, s1.rel.keep fun u z => ?_⟩
                  · have w0 : Wf B1 ((a, .lst (ts.map MA.val)) :: (ts[j].cells ++ (R0 ++ R2 ++ R1 ++ (tx.cells ++ F)))) H1 := by
                      refine s1.wf.perm ?_
                      refine (List.Perm.append_right _ (y1.trans (List.Perm.append_right R1 x1))).trans ?_
                      simp only [MA.cells, List.cons_append]
                      refine List.Perm.cons _ ?_
                      have := List.Perm.append_right (R2 ++ (R1 ++ (tx.cells ++ F))) z1
                      simpa only [List.append_assoc] using this
                    have w1 : Wf B1 ((a, .lst (ts.map MA.val)) :: (R0 ++ R2 ++ R1 ++ (tx.cells ++ F))) H1 := by
                      have := w0.perm (List.perm_middle (a := (a, HO.lst (ts.map MA.val))) (l₁ := ts[j].cells) (l₂ := R0 ++ R2 ++ R1 ++ (tx.cells ++ F))).symm
                      exact this.drop
                    have w2 := Wf.write (o' := .lst ((ts.map MA.val).set j v)) w1
                    refine w2.perm ?_
                    have z3 := z2 tx
                    have x3 := x2 (.lst a (ts.set j tx)) rfl
                    have y3 := y2 (some (t.put p (.lst a (ts.set j tx))))
                    refine List.Perm.trans ?_ (List.Perm.append_right F (y3.trans (List.Perm.append_right R1 x3))).symm
                    simp only [MA.cells, List.cons_append, List.map_set, af.ev]
                    refine List.Perm.cons _ ?_
                    refine List.Perm.trans ?_ (List.Perm.append_right F (List.Perm.append_right R1 (List.Perm.append_right R2 z3))).symm
                    have q2 : (R0 ++ R2 ++ R1 ++ tx.cells ++ F).Perm (tx.cells ++ (R0 ++ R2 ++ R1) ++ F) := List.Perm.append_right _ List.perm_append_comm
                    simpa only [List.append_assoc] using q2
                  · cases z
                    refine ok_put hs (s1.ok i t ht) ?_
                    unfold MA.ok
                    refine oks_iff.mpr fun y hy => ?_
                    rcases List.mem_or_eq_of_mem_set hy with z | z
                    · exact oks_iff.mp hok y z
                    · subst z; exact af.ok
                  · cases z
                    exact ⟨t, ht, (put_val (s' := .lst a (ts.set j tx)) hs rfl).symm⟩
                refine q σ _ B1 _ ⟨s2, af.sb, ?_, fun _ _ => rfl⟩
                rw [← af.ee]
                have pe := putAt_erE (s' := .lst a (ts.set j tx)) ht hs
                simp only [MA.er] at pe
                rw [← pe]
                congr 1
                simp only [MA.er] at hms
                cases hms
                rw [ers_map, ers_map, List.map_set, af.em]
              · cases hm'
            · cases hm'
          · cases e
        · cases e
      · cases e
    · cases e
  · cases e
end
end Ev
set_option Elab.async false
set_option linter.all false
set_option maxRecDepth 100000
set_option maxHeartbeats 1000000
/-! Statements: attributes, append, augmented; loops. -/
namespace Ev
open PySem PySem.Spec PyProof.Rows PySem.Calls
open L2 (V HO Hp SqL SqT Same upd upd_same upd_ne Cx PE PT PA PI PG PS PSs Ends It Inv RelV Vals VK Gl TI)

section
variable {K : PySem.W.Frag} {ct : Str → Option Addr} {fx : List Nat} {B B' H H' : Hp} {F : List Cell} {σ σ' : L2.St} {τ : TE0} {pl : Bool} {D : Ends}

/-- a container inside a slot is changed, and takes a tree in that nobody had -/
theorem St.absorb {tx : MA} (h : St K ct B (tx.cells ++ F) σ τ H) {i : Nat} {p : List Nat} {t s s' : MA} (ht : τ[i]? = some (some t)) (hs : t.sub p = some s) (hv : s'.val = s.val)
    (hw : ∀ G, Wf B (s.cells ++ (tx.cells ++ G)) H → Wf B (s'.cells ++ G) H') (ok' : s'.ok K ct B) : St K ct B F σ (τ.set i (some (t.put p s'))) H' := by
  obtain ⟨R, h1, h2⟩ := cellsE_set ht
  obtain ⟨R', k1, k2⟩ := put_cells hs
  refine ⟨?_, h.ok.set fun u e => by cases e; exact ok_put hs (h.ok i t ht) ok', h.rel.keep fun u e => by cases e; exact ⟨t, ht, (put_val hs hv).symm⟩⟩
  have w : Wf B (s.cells ++ (tx.cells ++ (R' ++ (R ++ F)))) H := by
    refine h.wf.perm ((List.Perm.append_right _ (h1.trans (List.Perm.append_right R k1))).trans ?_)
    have : (R' ++ (R ++ (tx.cells ++ F))).Perm (tx.cells ++ (R' ++ (R ++ F))) := by
      have q : ((R' ++ R) ++ tx.cells ++ F).Perm (tx.cells ++ (R' ++ R) ++ F) := List.Perm.append_right _ List.perm_append_comm
      simpa only [List.append_assoc] using q
    simpa only [List.append_assoc] using List.Perm.append_left s.cells this
  refine (hw _ w).perm ?_
  have := (List.Perm.append_right F ((h2 (some (t.put p s'))).trans (List.Perm.append_right R (k2 s' hv)))).symm
  simpa only [List.append_assoc, cellsO] using this
theorem app_w {a : Addr} {ts : List MA} {tx : MA} {v : V} (hv : tx.val = v) : ∀ G, Wf B ((MA.lst a ts).cells ++ (tx.cells ++ G)) H → Wf B ((MA.lst a (ts ++ [tx])).cells ++ G) (upd H a (.lst (ts.map MA.val ++ [v]))) := fun G w => by
  simp only [MA.cells, List.cons_append] at w
  have w2 := Wf.write (o' := .lst (ts.map MA.val ++ [v])) w
  refine w2.perm ?_
  simp only [MA.cells, cellsL_app, MA.cellsL, List.append_nil, List.map_append, List.map_cons, List.map_nil, hv, List.cons_append, List.append_assoc]
  exact List.Perm.refl _
theorem app_ok {a : Addr} {ts : List MA} {tx : MA} (h : (MA.lst a ts).ok K ct B) (hx : tx.ok K ct B) : (MA.lst a (ts ++ [tx])).ok K ct B := by
  unfold MA.ok at h ⊢
  refine oks_iff.mpr fun y hy => ?_
  rcases List.mem_append.mp hy with z | z
  · exact oks_iff.mp h y z
  · cases List.mem_singleton.mp z; exact hx
theorem s_app {i : Nat} {c : SE} (h : TSf K ct fx (sApp i c) D σ H) : L2.tDrop (L2.tBM K "list" L2.rAppend (L2.tVar i) (L2.tCons (TEf K ct c) L2.tNil)) D σ H := by
  obtain ⟨B, F, τ, st, r, e, q⟩ := h
  unfold sApp at e
  split at e
  · rename_i ms0 h0
    obtain ⟨t0, ht0, et0⟩ := erE_slot h0
    obtain ⟨a0, ts0, rfl, _⟩ := t_lst et0
    have hσ := st.rel.at_ i _ ht0
    split at e
    · rename_i x e1 hc
      split at e
      · rename_i ms hm
        split at e
        · rename_i hlen
          cases e
          refine ⟨.ref a0, hσ, .inl ⟨rfl, _, SqL.of (cell_of (p := []) st ht0 rfl (a0, .lst (ts0.map MA.val)) (by simp [MA.cells]))⟩, B, F, τ, st, x, e1, hc, fun v H1 B1 tx τ1 af => ?_⟩
          rw [← af.ee] at hm
          obtain ⟨t1, ht1, et1⟩ := erE_slot hm
          obtain ⟨a, ts, rfl, hts⟩ := t_lst et1
          have ha : a = a0 := by
            have := af.st.rel.at_ i _ ht1
            rw [hσ] at this
            cases this; rfl
          subst ha
          refine ⟨a, ts.map MA.val, v, rfl, rfl, cell_of (p := []) af.st ht1 rfl (a, _) (by simp [MA.cells]), ?_, ?_⟩
          · rw [List.length_map, line_eq]
            rw [← hts, ers_map, List.length_map] at hlen
            exact hlen
          · have s2 := St.absorb (p := []) (s' := .lst a (ts ++ [tx])) af.st ht1 rfl rfl (app_w af.ev) (app_ok (af.st.ok i _ ht1) af.ok)
            refine q σ _ B1 _ ⟨s2, af.sb, ?_, fun _ _ => rfl⟩
            rw [erE_set]
            simp only [MA.put, Option.map_some, MA.er]
            rw [af.ee, ← hts, ers_map, ers_map, List.map_append, ← af.em]
            rfl
        · cases e
      · cases e
    · cases e
  · cases e
theorem s_appK {k : SK} {qp : SP} (h : TSf K ct fx (sAppK k qp) D σ H) : L2.tDrop (L2.tBM K "list" L2.rAppend (TKf K ct k) (L2.tCons (TPf K ct qp) L2.tNil)) D σ H := by
  obtain ⟨B, F, τ, st, r, e, q⟩ := h
  unfold sAppK at e
  split at e
  · rename_i i p hk
    split at e
    · rename_i x hx
      split at e
      · rename_i ms hm
        split at e
        · rename_i hlen
          cases e
          refine ⟨B, F, τ, st, _, hk, fun w hw => ?_⟩
          obtain ⟨t, s, ht, hs, hv⟩ := hw
          rw [at_erE ht hs] at hm
          obtain ⟨a, ts, rfl, hts⟩ := t_lst (Option.some.inj hm)
          have hv2 : V.ref a = w := hv
          subst hv2
          have hcell := cell_of st ht hs (a, .lst (ts.map MA.val)) (by simp [MA.cells])
          refine ⟨.inl ⟨rfl, _, SqL.of hcell⟩, B, F, τ, st, x, hx, fun v rv => ?_⟩
          refine ⟨a, ts.map MA.val, v, rfl, rfl, hcell, ?_, ?_⟩
          · rw [List.length_map, line_eq]
            rw [← hts, ers_map, List.length_map] at hlen
            exact hlen
          · have okx : (MA.d x v).ok K ct B := by unfold MA.ok; exact rv
            have st0 : St K ct B ((MA.d x v).cells ++ F) σ τ H := by simpa [MA.cells] using st
            have s2 := St.absorb (s' := .lst a (ts ++ [.d x v])) st0 ht hs rfl (app_w rfl) (app_ok (ok_sub hs (st.ok i _ ht)) okx)
            refine q σ _ B _ ⟨s2, Same.refl _, ?_, fun _ _ => rfl⟩
            have pe := putAt_erE (s' := .lst a (ts ++ [.d x v])) ht hs
            rw [← pe]
            congr 1
            simp only [MA.er]
            rw [← hts, ers_map, ers_map, List.map_append]
            rfl
        · cases e
      · cases e
    · cases e
  · cases e
theorem put_none : ∀ {ns : List Str} {vs : List V} {f : Str} {y : V}, fIx ns f = none → ns.length = vs.length → L2.putF f y (ns.zip vs) = (ns ++ [f]).zip (vs ++ [y])
  | [], [], f, y, _, _ => rfl
  | n :: ns, v :: vs, f, y, h, hl => by
    unfold fIx at h
    rw [List.findIdx?_cons] at h
    by_cases e : n = f
    · subst e; simp at h
    · have e1 : (n == f) = false := by simpa using e
      rw [e1] at h
      simp only [Bool.false_eq_true, if_false, Option.map_eq_none_iff] at h
      simp only [List.zip_cons_cons, L2.putF, if_neg e, List.cons_append]
      rw [put_none (ns := ns) h (by simpa using hl)]
  | [], _ :: _, _, _, _, hl => by simp at hl
  | _ :: _, [], _, _, _, hl => by simp at hl
theorem put_some : ∀ {ns : List Str} {vs : List V} {f : Str} {y : V} {j : Nat}, fIx ns f = some j → ns.length = vs.length → L2.putF f y (ns.zip vs) = ns.zip (vs.set j y)
  | [], _, f, y, j, h, _ => by simp [fIx] at h
  | n :: ns, [], f, y, j, h, hl => by simp at hl
  | n :: ns, v :: vs, f, y, j, h, hl => by
    unfold fIx at h
    rw [List.findIdx?_cons] at h
    by_cases e : n = f
    · subst e
      simp at h
      subst h
      simp [L2.putF]
    · have e1 : (n == f) = false := by simpa using e
      rw [e1] at h
      simp only [Bool.false_eq_true, if_false, Option.map_eq_some_iff] at h
      obtain ⟨k, hk, rfl⟩ := h
      simp only [List.zip_cons_cons, L2.putF, if_neg e, List.set_cons_succ]
      rw [put_some (ns := ns) hk (by simpa using hl)]
theorem fIx_mem {ns : List Str} {f : Str} {j : Nat} (h : fIx ns f = some j) : j < ns.length ∧ f ∈ ns := by
  unfold fIx at h
  obtain ⟨h1, h2, _⟩ := List.findIdx?_eq_some_iff_getElem.mp h
  have e2 : ns[j] = f := by simpa using h2
  exact ⟨h1, by rw [← e2]; exact List.getElem_mem _⟩
theorem t_obj {t : MA} {c : Str} {ns : List Str} {m : List M} (h : t.er = .obj c ns m) : ∃ C dx a ts, t = .obj c C dx a ns ts ∧ MA.ers ts = m := by
  cases t with
  | d x v => simp [MA.er] at h
  | lst a ts => simp [MA.er] at h
  | obj c' C dx a ns' ts =>
    simp only [MA.er, M.obj.injEq] at h
    obtain ⟨rfl, rfl, h⟩ := h
    exact ⟨C, dx, a, ts, rfl, h⟩
theorem s_fld {fa : Str → Str → Bool} {k : SK} {f : Str} {c : SE} (hfa : ∀ c f C, fa c f = true → ct c = some C → L2.NoAttr K C f) (h : TSf K ct fx (sFld fa k f c) D σ H) : L2.sFld K (TKf K ct k) (TEf K ct c) f D σ H := by
  obtain ⟨B, F, τ, st, r, e, q⟩ := h
  unfold sFld at e
  split at e
  · rename_i x e1 hc
    split at e
    · rename_i i p hk
      split at e
      · rename_i m hm
        split at e
        · rename_i m' hm'
          cases e
          refine ⟨B, F, τ, st, x, e1, hc, fun v H1 B1 tx τ1 af => ?_⟩
          rw [← af.ee] at hk hm
          refine ⟨B1, _, τ1, af.st, _, hk, fun w hw => ?_⟩
          obtain ⟨t, s, ht, hs, hv⟩ := hw
          rw [at_erE ht hs] at hm
          cases hm
          unfold M.setF at hm'
          split at hm'
          · rename_i cn ns ms hms
            obtain ⟨C, dx, a, ts, rfl, hts⟩ := t_obj hms
            have hv2 : V.ref a = w := hv
            subst hv2
            have hok := ok_sub hs (af.st.ok i _ ht)
            unfold MA.ok at hok
            obtain ⟨oc, hl, oks⟩ := hok
            have hcell := cell_of af.st ht hs (a, _) (by simp only [MA.cells]; exact List.mem_cons_self)
            have fin : ∀ (ns' : List Str) (ts' : List MA), m' = .obj cn ns' (MA.ers ts') → L2.NoAttr K C f → L2.putF f v (ns.zip (ts.map MA.val)) = ns'.zip (ts'.map MA.val) → ns'.length = ts'.length → ObjC K ct cn C ns' → MA.oks K ct B1 ts' →
                (∀ G, (MA.cellsL ts ++ (tx.cells ++ G)).Perm (MA.cellsL ts' ++ G) ∨ ∃ Z, (MA.cellsL ts ++ (tx.cells ++ G)).Perm (Z ++ (MA.cellsL ts' ++ G))) →
                ∃ a_1 C dx fs, V.ref a = V.ref a_1 ∧ H1 a_1 = some (.ins C dx fs) ∧ L2.Cls K C ∧ L2.NoAttr K C f ∧ fs.length < 1000 ∧ D.nx σ (upd H1 a_1 (.ins C dx (L2.putF f v fs))) := by
              intro ns' ts' em' na pf hl' oc' oks' pm
              refine ⟨a, C, dx, _, rfl, hcell, oc.cls, na, ?_, ?_⟩
              · rw [List.length_zip, List.length_map]
                have := oc.few
                omega
              · have s2 := St.absorb (s' := .obj cn C dx a ns' ts') af.st ht hs rfl (H' := upd H1 a (.ins C dx (L2.putF f v (ns.zip (ts.map MA.val))))) (fun G w => by
                  simp only [MA.cells, List.cons_append] at w ⊢
                  have w2 := Wf.write (o' := .ins C dx (ns'.zip (ts'.map MA.val))) w
                  rw [pf]
                  rcases pm G with pm | ⟨Z, pm⟩
                  · exact w2.perm (List.Perm.cons _ (List.Perm.cons _ pm))
                  · have w3 := w2.perm (List.Perm.cons _ (List.Perm.cons _ pm))
                    have p4 : ((a, HO.ins C dx (ns'.zip (ts'.map MA.val))) :: (dx, HO.own a) :: (Z ++ (MA.cellsL ts' ++ G))).Perm (Z ++ ((a, HO.ins C dx (ns'.zip (ts'.map MA.val))) :: (dx, HO.own a) :: (MA.cellsL ts' ++ G))) := by
                      refine (List.Perm.cons _ List.perm_middle.symm).trans ?_
                      exact List.perm_middle.symm
                    exact (w3.perm p4).drop) (by unfold MA.ok; exact ⟨oc', hl', oks'⟩)
                refine q σ _ B1 _ ⟨s2, af.sb, ?_, fun _ _ => rfl⟩
                have pe := putAt_erE (s' := .obj cn C dx a ns' ts') ht hs
                rw [← pe, af.ee, em']
                simp only [MA.er]
            split at hm'
            · rename_i j hj
              cases hm'
              obtain ⟨j1, j2⟩ := fIx_mem hj
              have hjt : j < ts.length := by rw [← hl]; exact j1
              obtain ⟨R0, z1, z2⟩ := cellsL_set (List.getElem?_eq_getElem hjt)
              refine fin ns (ts.set j tx) ?_ (oc.na f j2) ?_ (by rw [List.length_set]; exact hl) oc ?_ fun G => .inr ⟨ts[j].cells, ?_⟩
              · rw [← hts, ers_map, ers_map, List.map_set, af.em]
              · rw [put_some hj (by rw [List.length_map]; exact hl), List.map_set, af.ev]
              · refine oks_iff.mpr fun y hy => ?_
                rcases List.mem_or_eq_of_mem_set hy with z | z
                · exact oks_iff.mp oks y z
                · subst z; exact af.ok
              · refine (List.Perm.append_right _ z1).trans ?_
                have z3 := z2 tx
                rw [List.append_assoc]
                refine List.Perm.append_left _ ?_
                have q2 : (R0 ++ tx.cells ++ G).Perm (tx.cells ++ R0 ++ G) := List.Perm.append_right _ List.perm_append_comm
                rw [List.append_assoc] at q2
                exact q2.trans (List.Perm.append_right _ z3.symm)
            · rename_i hj
              split at hm'
              · rename_i hcnd
                cases hm'
                have na := hfa cn f C hcnd.2 oc.at_
                refine fin (ns ++ [f]) (ts ++ [tx]) ?_ na ?_ (by simp [hl]) ⟨oc.at_, oc.cls, ?_, by simp; omega⟩ ?_ fun G => .inl ?_
                · rw [← hts, ers_map, ers_map, List.map_append, ← af.em]; rfl
                · rw [put_none hj (by rw [List.length_map]; exact hl), List.map_append, ← af.ev]; rfl
                · intro g hg
                  rcases List.mem_append.mp hg with z | z
                  · exact oc.na g z
                  · cases List.mem_singleton.mp z; exact na
                · refine oks_iff.mpr fun y hy => ?_
                  rcases List.mem_append.mp hy with z | z
                  · exact oks_iff.mp oks y z
                  · cases List.mem_singleton.mp z; exact af.ok
                · simp only [cellsL_app, MA.cellsL, List.append_nil, List.append_assoc]
                  exact List.Perm.refl _
              · cases hm'
          · cases hm'
        · cases e
      · cases e
    · cases e
  · cases e
theorem s_aug {i : Nat} {op : Operator} {f : Int → Int → Int} {c : SE} (hf : ∀ a b, binI op a b = some (f a b)) (hi : i ∉ fx) (h : TSf K ct fx (sAug i op c) D σ H) : L2.tAug i (TEf K ct c) (L2.ipI f) D σ H := by
  obtain ⟨B, F, τ, st, r, e, q⟩ := h
  unfold sAug at e
  split at e
  · rename_i a ha
    obtain ⟨t, ht, et⟩ := erE_slot ha
    have hσ := st.rel.at_ i t ht
    have hv : t.val = .int a := by
      have o := st.ok i t ht
      cases t with
      | d x v =>
        simp only [MA.er, M.d.injEq] at et
        subst et
        unfold MA.ok RepD at o
        exact o
      | lst a ts => simp [MA.er] at et
      | obj c C dx a ns ts => simp [MA.er] at et
    split at e
    · rename_i b e1 hb
      split at e
      · rename_i z hz
        cases e
        refine ⟨t.val, hσ, e_one (Q := fun y H1 => L2.ipI f t.val y H1 fun z H2 => D.nx (σ.set i (some z)) H2) st hb fun v H1 B1 τ1 st1 sb1 ee rv => ?_⟩
        simp only [M.fz] at rv
        unfold RepD at rv
        refine ⟨a, b, hv, rv, ?_⟩
        rw [hf] at hz
        cases hz
        refine q _ H1 B1 _ ⟨st1.setd (x := .int (f a b)) rep_int, sb1, by rw [erE_set, ee]; rfl, fun j hj => List.getElem?_set_ne (fun z => by subst z; exact hi hj)⟩
      · cases e
    · cases e
  · cases e

/-! ### loops -/
theorem s_for {it : SI} {g : Tg} {b : SS} (hg : ∀ j ∈ g.ns, j ∉ fx) (h : TSf K ct fx (sFor it g b) D σ H) : L2.tFor (TIf K ct pl it) (TGf K ct pl g) (TSf K ct fx b) D σ H := by
  obtain ⟨B, F, τ, st, r, e, q⟩ := h
  unfold sFor at e
  split at e
  · rename_i xs e1 hi
    refine ⟨B, F, τ, st, xs, e1, hi, fun J H1 B1 τ1 af w => ?_⟩
    refine L2.for_it (Y := J.yld) (n := xs.length) (G := fun H => Same B1 H) ⟨fun i H hi sb => w.goes i H hi sb, fun H sb => w.stops H sb, fun i H x H' _ _ y => y⟩
      (fun i σ' H' => ∃ B' τ', St K ct B' F σ' τ' H' ∧ Same B1 B' ∧ (∀ j ∈ fx, σ'[j]? = σ[j]?) ∧ ∃ r, forL g b (xs.drop i) (erE τ') = some r ∧ EndsD K ct fx B' F σ' r D) ?_ ?_ ?_ ?_
    · exact ⟨B1, τ1, af.st, Same.refl _, fun _ _ => rfl, r, by rw [af.ee]; simpa using e, q.mono af.sb fun _ _ => rfl⟩
    · rintro i σ' H' hi ⟨B', τ', s, sb, _⟩
      exact sb.trans s.wf.sub
    · rintro i v σ' H2 H3 hi ⟨B', τ', s2, sb, kp, r, hr, qr⟩ y
      obtain ⟨B2, w2, sb2, x, hx, ry⟩ := w.yields i H2 v H3 _ B' hi sb s2.wf y
      have s3 : St K ct B2 F σ' τ' H3 := ⟨w2, s2.ok.mono sb2, s2.rel⟩
      have hdrop : xs.drop i = x :: xs.drop (i + 1) := by
        rw [List.drop_eq_getElem_cons hi]
        rw [List.getElem?_eq_getElem hi] at hx
        cases hx; rfl
      rw [hdrop] at hr
      simp only [forL] at hr
      split at hr
      · cases hr
      · rename_i e3 hset
        refine ⟨B2, F, τ', s3, x, e3, ry, hset, fun σ4 τ4 s4 ee4 hl4 hk4 => ?_⟩
        have k4 : ∀ j ∈ fx, σ4[j]? = σ'[j]? := fun j hj => hk4 j fun z => hg j z hj
        split at hr
        · rename_i e5 hb
          refine ⟨B2, F, τ4, s4, (.nx e5), by rw [ee4]; exact hb, fun σ5 H5 B5 τ5 a5 => ?_⟩
          have k5 : ∀ j ∈ fx, σ5[j]? = σ'[j]? := fun j hj => (a5.kp j hj).trans (k4 j hj)
          exact ⟨B5, τ5, a5.st, (sb.trans sb2).trans a5.sb, fun j hj => (k5 j hj).trans (kp j hj), r, by rw [a5.ee]; exact hr, qr.mono (sb2.trans a5.sb) k5⟩
        · rename_i e5 hb
          refine ⟨B2, F, τ4, s4, (.ct e5), by rw [ee4]; exact hb, fun σ5 H5 B5 τ5 a5 => ?_⟩
          have k5 : ∀ j ∈ fx, σ5[j]? = σ'[j]? := fun j hj => (a5.kp j hj).trans (k4 j hj)
          exact ⟨B5, τ5, a5.st, (sb.trans sb2).trans a5.sb, fun j hj => (k5 j hj).trans (kp j hj), r, by rw [a5.ee]; exact hr, qr.mono (sb2.trans a5.sb) k5⟩
        · rename_i e5 hb
          cases hr
          refine ⟨B2, F, τ4, s4, (.bk e5), by rw [ee4]; exact hb, fun σ5 H5 B5 τ5 a5 => ?_⟩
          exact qr σ5 H5 B5 τ5 ⟨a5.st, sb2.trans a5.sb, a5.ee, fun j hj => (a5.kp j hj).trans (k4 j hj)⟩
        · rename_i m e5 hb
          cases hr
          refine ⟨B2, F, τ4, s4, (.rt m e5), by rw [ee4]; exact hb, fun v5 σ5 H5 B5 t5 τ5 a5 => ?_⟩
          exact qr v5 σ5 H5 B5 t5 τ5 ⟨Aft.of sb2 a5.a, fun j hj => (a5.kp j hj).trans (k4 j hj)⟩
        · cases hr
    · rintro σ' H2 ⟨B', τ', s2, sb, kp, r, hr, qr⟩
      rw [List.drop_length] at hr
      simp only [forL, Option.some.injEq] at hr
      subst hr
      exact qr σ' H2 B' τ' ⟨s2, Same.refl _, rfl, fun _ _ => rfl⟩
  · cases e
theorem s_while {N : Nat} {t : ST} {b : SS} (h : TSf K ct fx (sWhile N t b) D σ H) : L2.tWhile (TTf K ct t) (TSf K ct fx b) D σ H := by
  obtain ⟨B, F, τ, st, r, e, q⟩ := h
  refine ⟨fun m σ' H' => ∃ B' τ', St K ct B' F σ' τ' H' ∧ Same B B' ∧ (∀ j ∈ fx, σ'[j]? = σ[j]?) ∧ ∃ r, whileL t b m (erE τ') = some r ∧ EndsD K ct fx B' F σ' r D, ⟨N, B, τ, st, Same.refl _, fun _ _ => rfl, r, e, q⟩, ?_⟩
  rintro m σ' H' ⟨B', τ', s2, sb, kp, r, hr, qr⟩
  cases m with
  | zero => cases hr
  | succ m =>
    simp only [whileL] at hr
    split at hr
    · cases hr
    · rename_i e1 ht
      cases hr
      refine ⟨B', F, τ', s2, false, e1, ht, fun H3 B3 τ3 a3 => ?_⟩
      simp only [Bool.false_eq_true, if_false]
      exact qr σ' H3 B3 τ3 ⟨a3.st, a3.sb, a3.ee, fun _ _ => rfl⟩
    · rename_i e1 ht
      refine ⟨B', F, τ', s2, true, e1, ht, fun H3 B3 τ3 a3 => ?_⟩
      simp only [if_true]
      refine ⟨fun σ5 H5 => ∃ B5 τ5, St K ct B5 F σ5 τ5 H5 ∧ Same B B5 ∧ (∀ j ∈ fx, σ5[j]? = σ[j]?) ∧ ∃ r, whileL t b m (erE τ5) = some r ∧ EndsD K ct fx B5 F σ5 r D, fun σ5 H5 z => ⟨m, Nat.lt_succ_self m, z⟩, ?_⟩
      split at hr
      · rename_i e5 hb
        refine ⟨B3, F, τ3, a3.st, (.nx e5), by rw [a3.ee]; exact hb, fun σ5 H5 B5 τ5 a5 => ?_⟩
        exact ⟨B5, τ5, a5.st, (sb.trans a3.sb).trans a5.sb, fun j hj => (a5.kp j hj).trans (kp j hj), r, by rw [a5.ee]; exact hr, qr.mono (a3.sb.trans a5.sb) fun j hj => a5.kp j hj⟩
      · rename_i e5 hb
        refine ⟨B3, F, τ3, a3.st, (.ct e5), by rw [a3.ee]; exact hb, fun σ5 H5 B5 τ5 a5 => ?_⟩
        exact ⟨B5, τ5, a5.st, (sb.trans a3.sb).trans a5.sb, fun j hj => (a5.kp j hj).trans (kp j hj), r, by rw [a5.ee]; exact hr, qr.mono (a3.sb.trans a5.sb) fun j hj => a5.kp j hj⟩
      · rename_i e5 hb
        cases hr
        refine ⟨B3, F, τ3, a3.st, (.bk e5), by rw [a3.ee]; exact hb, fun σ5 H5 B5 τ5 a5 => ?_⟩
        exact qr σ5 H5 B5 τ5 ⟨a5.st, a3.sb.trans a5.sb, a5.ee, fun j hj => a5.kp j hj⟩
      · rename_i mm e5 hb
        cases hr
        refine ⟨B3, F, τ3, a3.st, (.rt mm e5), by rw [a3.ee]; exact hb, fun v5 σ5 H5 B5 t5 τ5 a5 => ?_⟩
        exact qr v5 σ5 H5 B5 t5 τ5 ⟨Aft.of a3.sb a5.a, fun j hj => a5.kp j hj⟩
      · cases hr
end
end Ev
set_option Elab.async false
set_option linter.all false
set_option maxRecDepth 100000
set_option maxHeartbeats 1000000
/-! Calls of the program's own. -/
namespace Ev
open PySem PySem.Spec PyProof.Rows PySem.Calls
open L2 (V HO Hp SqL SqT Same upd upd_same upd_ne Cx PE PT PA PI PG PS PSs Ends It Inv RelV Vals VK Gl TI XK Sp CXT FnOk)

inductive AMA where
  | m (t : MA) | lend (i : Nat)
def AMA.er : AMA → AV
  | .m t => .m t.er
  | .lend i => .lend i
def AMA.cells : AMA → List Cell
  | .m t => t.cells
  | .lend _ => []
section
variable (K : PySem.W.Frag) (ct : Str → Option Addr)
def AMA.ok (B : Hp) (σ : L2.St) : AMA → V → Prop
  | .m t, v => t.ok K ct B ∧ t.val = v
  | .lend i, v => σ[i]? = some (some v)
def VRel (B : Hp) (σ : L2.St) : List AMA → List V → Prop
  | [], vs => vs = []
  | a :: as, vs => ∃ v r, vs = v :: r ∧ a.ok K ct B σ v ∧ VRel B σ as r
structure AftV (B : Hp) (F : List Cell) (σ : L2.St) (avs : List AV) (e : Env) (vs : List V) (H' B' : Hp) (as : List AMA) (τ' : TE0) : Prop where
  st : St K ct B' (as.flatMap AMA.cells ++ F) σ τ' H'
  ok : VRel K ct B' σ as vs
  sb : Same B B'
  ee : erE τ' = e
  em : as.map AMA.er = avs
/-- one argument -/
def TVf (a : SA) : L2.TE := fun σ H Q => ∃ B F τ, St K ct B F σ τ H ∧ ∃ av e', a (erE τ) = some (av, e') ∧ ∀ v H' B' am τ', AftV K ct B F σ [av] e' [v] H' B' [am] τ' → Q v H'
def TVs (as : List SA) : L2.TA := fun σ H Q => ∃ B F τ, St K ct B F σ τ H ∧ ∃ avs e', evA as (erE τ) = some (avs, e') ∧ ∀ vs H' B' ams τ', AftV K ct B F σ avs e' vs H' B' ams τ' → Q vs H'
/-- what a def promises: r what it answers, mu what it changes of what it is given -/
def spR (r : Fn) (mu : List Nat) (np : Nat) : Sp := fun vs H Q _ => vs.length = np ∧ ∃ (B : Hp) (F : List Cell) (ts : List MA), Wf B (MA.cellsL ts ++ F) H ∧ MA.oks K ct B ts ∧ ts.map MA.val = vs ∧ ∃ m os, r (MA.ers ts) = some (m, os) ∧
  ∀ (v : V) (H' B' : Hp) (t : MA) (us : List MA), Wf B' (t.cells ++ (MA.cellsL us ++ F)) H' → Same B B' → t.ok K ct B' → MA.oks K ct B' us → t.er = m → MA.ers us = os → t.val = v → us.map (fun u : MA => some u.val) = mu.map (fun j : Nat => vs[j]?) → Q v H'
end
section
variable {K : PySem.W.Frag} {ct : Str → Option Addr} {fx : List Nat} {B B' H H' : Hp} {F : List Cell} {σ σ' : L2.St} {τ : TE0}

theorem AMA.ok.mono {a : AMA} {v : V} (h : a.ok K ct B σ v) (sb : Same B B') : a.ok K ct B' σ v := by
  cases a with
  | m t => exact ⟨h.1.mono sb, h.2⟩
  | lend i => exact h
theorem VRel.mono : ∀ {as : List AMA} {vs : List V}, VRel K ct B σ as vs → Same B B' → VRel K ct B' σ as vs
  | [], _, h, _ => by unfold VRel at *; exact h
  | a :: as, vs, h, sb => by
    unfold VRel at *
    obtain ⟨v, r, e, h1, h2⟩ := h
    exact ⟨v, r, e, h1.mono sb, h2.mono sb⟩
theorem v_val {c : SE} {Q : VK} (h : TVf K ct (aV c) σ H Q) : TEf K ct c σ H Q := by
  obtain ⟨B, F, τ, st, av, e', e, q⟩ := h
  unfold aV at e
  split at e
  · rename_i m e1 hc
    cases e
    exact ⟨B, F, τ, st, m, _, hc, fun v H' B' t τ' af => q v H' B' (.m t) τ' ⟨by simpa [AMA.cells] using af.st, by unfold VRel; exact ⟨v, [], rfl, ⟨af.ok, af.ev⟩, by unfold VRel; rfl⟩, af.sb, af.ee, by simp [AMA.er, af.em]⟩⟩
  · cases e
theorem v_lend {i : Nat} {Q : VK} (h : TVf K ct (aL i) σ H Q) : L2.tVar i σ H Q := by
  obtain ⟨B, F, τ, st, av, e', e, q⟩ := h
  unfold aL at e
  cases hs : (erE τ).slot i with
  | none => rw [hs] at e; cases e
  | some m =>
    rw [hs] at e
    obtain ⟨t, ht, het⟩ := erE_slot hs
    have hσ := st.rel.at_ i t ht
    refine ⟨t.val, hσ, ?_⟩
    have hl : av = .lend i → e' = erE τ → Q t.val H := fun z1 z2 => q t.val H B (.lend i) τ ⟨by simpa [AMA.cells] using st, by unfold VRel; exact ⟨_, [], rfl, hσ, by unfold VRel; rfl⟩, Same.refl _, z2.symm, by simp [AMA.er, z1]⟩
    cases m with
    | d x =>
      cases e
      cases t with
      | d y v =>
        simp only [MA.er, M.d.injEq] at het
        subst het
        have ok := st.ok i _ ht
        exact q _ H B (.m (.d y v)) τ ⟨by simpa [AMA.cells, MA.cells] using st, by unfold VRel; exact ⟨v, [], rfl, ⟨ok, rfl⟩, by unfold VRel; rfl⟩, Same.refl _, rfl, by simp [AMA.er, MA.er]⟩
      | lst a ts => simp [MA.er] at het
      | obj c C dx a ns ts => simp [MA.er] at het
    | lst ms => cases e; exact hl rfl rfl
    | obj c ns ms => cases e; exact hl rfl rfl
theorem vs_nil {Q : List V → Hp → Prop} (h : TVs K ct [] σ H Q) : L2.tNil σ H Q := by
  obtain ⟨B, F, τ, st, avs, e', e, q⟩ := h
  simp only [evA, Option.some.injEq, Prod.mk.injEq] at e
  obtain ⟨rfl, rfl⟩ := e
  exact q [] H B [] τ ⟨by simpa using st, by unfold VRel; rfl, Same.refl _, rfl, rfl⟩
theorem vs_cons {a : SA} {as : List SA} {Q : List V → Hp → Prop} (h : TVs K ct (a :: as) σ H Q) : L2.tCons (TVf K ct a) (TVs K ct as) σ H Q := by
  obtain ⟨B, F, τ, st, avs, e', e, q⟩ := h
  unfold evA at e
  split at e
  · rename_i av e1 ha
    split at e
    · rename_i avr e2 hr
      cases e
      refine ⟨B, F, τ, st, av, e1, ha, fun v H1 B1 am τ1 a1 => ?_⟩
      have st1 := a1.st
      simp only [List.flatMap_cons, List.flatMap_nil, List.append_nil] at st1
      refine ⟨B1, am.cells ++ F, τ1, st1, avr, _, by rw [a1.ee]; exact hr, fun vs H2 B2 ams τ2 a2 => ?_⟩
      refine q _ H2 B2 (am :: ams) τ2 ⟨?_, ?_, a1.sb.trans a2.sb, a2.ee, ?_⟩
      · refine ⟨a2.st.wf.perm (List.Perm.append_left _ ?_), a2.st.ok, a2.st.rel⟩
        simp only [List.flatMap_cons]
        rw [← List.append_assoc]
        exact List.Perm.append_right _ List.perm_append_comm
      · unfold VRel
        have o1 := a1.ok
        unfold VRel at o1
        obtain ⟨v', r', z1, z2, _⟩ := o1
        cases z1
        exact ⟨v, vs, rfl, z2.mono a2.sb, a2.ok⟩
      · have z := a1.em
        simp only [List.map_cons, List.map_nil, List.cons.injEq, and_true] at z
        simp only [List.map_cons, z, a2.em]
    · cases e
  · cases e
theorem St.takeout {i : Nat} {t : MA} (st : St K ct B F σ τ H) (ht : τ[i]? = some (some t)) : St K ct B (t.cells ++ F) σ (τ.set i none) H := by
  obtain ⟨R, h1, h2⟩ := cellsE_set ht
  have h3 := h2 none
  refine ⟨st.wf.perm ?_, st.ok.set fun u z => (nomatch z), st.rel.keep fun u z => (nomatch z)⟩
  simp only [cellsO, List.nil_append] at h1 h3
  refine (List.Perm.append_right F h1).trans ?_
  refine List.Perm.trans ?_ (List.Perm.append_right _ h3.symm)
  rw [← List.append_assoc]
  exact List.Perm.append_right _ List.perm_append_comm
theorem St.framed {F F' : List Cell} (st : St K ct B F σ τ H) (p : F.Perm F') : St K ct B F' σ τ H := ⟨st.wf.perm (List.Perm.append_left _ p), st.ok, st.rel⟩
theorem take_args : ∀ {as : List AMA} {vs : List V} {τ : TE0} {F : List Cell} {ms : List M} {e2 : Env}, St K ct B (as.flatMap AMA.cells ++ F) σ τ H → VRel K ct B σ as vs → takeA (as.map AMA.er) (erE τ) = some (ms, e2) →
    ∃ ts τ2, MA.ers ts = ms ∧ erE τ2 = e2 ∧ St K ct B (MA.cellsL ts ++ F) σ τ2 H ∧ MA.oks K ct B ts ∧ ts.map MA.val = vs
  | [], vs, τ, F, ms, e2, st, r, e => by
    unfold VRel at r
    subst r
    simp only [List.map_nil, takeA, Option.some.injEq, Prod.mk.injEq] at e
    obtain ⟨rfl, rfl⟩ := e
    exact ⟨[], τ, by simp [MA.ers], rfl, by simpa [MA.cellsL] using st, by unfold MA.oks; trivial, rfl⟩
  | .m t :: as, vs, τ, F, ms, e2, st, r, e => by
    unfold VRel at r
    obtain ⟨v, vr, rfl, ⟨o1, o2⟩, hr⟩ := r
    simp only [List.map_cons, AMA.er, takeA] at e
    split at e
    · rename_i mr e3 hm
      cases e
      have st1 : St K ct B (as.flatMap AMA.cells ++ (t.cells ++ F)) σ τ H := by
        refine st.framed ?_
        simp only [List.flatMap_cons, AMA.cells]
        rw [← List.append_assoc]
        exact List.Perm.append_right _ List.perm_append_comm
      obtain ⟨ts, τ2, h1, h2, h3, h4, h5⟩ := take_args st1 hr hm
      refine ⟨t :: ts, τ2, by simp [MA.ers, h1], h2, ?_, by unfold MA.oks; exact ⟨o1, h4⟩, by simp [o2, h5]⟩
      refine h3.framed ?_
      simp only [MA.cellsL]
      rw [← List.append_assoc]
      exact List.Perm.append_right _ List.perm_append_comm
    · cases e
  | .lend i :: as, vs, τ, F, ms, e2, st, r, e => by
    unfold VRel at r
    obtain ⟨v, vr, rfl, o, hr⟩ := r
    simp only [List.map_cons, AMA.er, takeA] at e
    split at e
    · rename_i m hm
      split at e
      · rename_i mr e3 hmr
        cases e
        obtain ⟨t, ht, rfl⟩ := erE_slot hm
        have st1 := St.takeout (i := i) st ht
        have st2 : St K ct B (as.flatMap AMA.cells ++ (t.cells ++ F)) σ (τ.set i none) H := by
          refine st1.framed ?_
          simp only [List.flatMap_cons, AMA.cells, List.nil_append]
          rw [← List.append_assoc, ← List.append_assoc]
          exact List.Perm.append_right _ List.perm_append_comm
        have hmr2 : takeA (as.map AMA.er) (erE (τ.set i none)) = some (mr, e2) := by rw [erE_set]; exact hmr
        obtain ⟨ts, τ2, h1, h2, h3, h4, h5⟩ := take_args st2 hr hmr2
        refine ⟨t :: ts, τ2, by simp [MA.ers, h1], h2, ?_, by unfold MA.oks; exact ⟨st.ok i t ht, h4⟩, ?_⟩
        · refine h3.framed ?_
          simp only [MA.cellsL]
          rw [← List.append_assoc]
          exact List.Perm.append_right _ List.perm_append_comm
        · have z := st.rel.at_ i t ht
          have o' : σ[i]? = some (some v) := o
          rw [o'] at z
          simp only [List.map_cons, h5]
          rw [← Option.some.inj (Option.some.inj z)]
      · cases e
    · cases e
/-- a tree comes (back) to its slot -/
theorem St.putin {u : MA} {i : Nat} (st : St K ct B (u.cells ++ F) σ τ H) (ok : u.ok K ct B) (hσ : σ[i]? = some (some u.val)) : St K ct B F σ (τ.set i (some u)) H := by
  have s := St.sett (i := i) st ok
  rw [set_same hσ] at s
  exact s
theorem vrel_get : ∀ {as : List AMA} {vs : List V} {j : Nat} {i : Nat}, VRel K ct B σ as vs → as[j]? = some (.lend i) → ∃ v, vs[j]? = some v ∧ σ[i]? = some (some v)
  | [], _, _, _, _, e => by simp at e
  | a :: as, vs, 0, i, r, e => by
    unfold VRel at r
    obtain ⟨v, vr, rfl, o, hr⟩ := r
    simp at e
    subst e
    exact ⟨v, rfl, o⟩
  | a :: as, vs, j + 1, i, r, e => by
    unfold VRel at r
    obtain ⟨v, vr, rfl, o, hr⟩ := r
    obtain ⟨w, h1, h2⟩ := vrel_get (j := j) hr (by simpa using e)
    exact ⟨w, by simpa using h1, h2⟩
theorem back_args {as : List AMA} {vs : List V} {B0 : Hp} (r : VRel K ct B0 σ as vs) : ∀ {mu : List Nat} {us : List MA} {τ : TE0} {F : List Cell} {xs : List V}, (∀ (j i : Nat), as[j]? = some (AMA.lend i) → xs[j]? = vs[j]?) → St K ct B (MA.cellsL us ++ F) σ τ H → MA.oks K ct B us → us.map (fun u : MA => some u.val) = mu.map (fun j : Nat => xs[j]?) →
    ∃ τ2, St K ct B F σ τ2 H ∧ erE τ2 = backA (as.map AMA.er) mu (MA.ers us) (erE τ)
  | [], us, τ, F, xs, hx, st, ok, e => by
    have : us = [] := by simpa using e
    subst this
    exact ⟨τ, by simpa [MA.cellsL] using st, by simp [backA]⟩
  | j :: mu, [], τ, F, xs, hx, st, ok, e => by simp at e
  | j :: mu, u :: us, τ, F, xs, hx, st, ok, e => by
    simp only [List.map_cons, List.cons.injEq] at e
    obtain ⟨e1, e2⟩ := e
    unfold MA.oks at ok
    have st1 : St K ct B (u.cells ++ (MA.cellsL us ++ F)) σ τ H := by simpa [MA.cellsL] using st
    have drop : St K ct B (MA.cellsL us ++ F) σ τ H := ⟨st1.front.drop, st1.ok, st1.rel⟩
    simp only [MA.ers, backA, List.getElem?_map]
    cases ha : as[j]? with
    | none => exact back_args r hx drop ok.2 e2
    | some a =>
      cases a with
      | m t => exact back_args r hx drop ok.2 e2
      | lend i =>
        obtain ⟨v, h1, h2⟩ := vrel_get r ha
        have e3 : u.val = v := by
          rw [hx j i ha, h1] at e1
          exact Option.some.inj e1
        have st2 := St.putin (i := i) st1 ok.1 (by rw [e3]; exact h2)
        obtain ⟨τ2, q1, q2⟩ := back_args (mu := mu) r hx st2 ok.2 e2
        refine ⟨τ2, q1, ?_⟩
        rw [q2, erE_set]
        rfl
theorem ints_oks : ∀ {dn : List Int}, MA.oks K ct B (dn.map fun i => .d (.int i) (.int i)) ∧ MA.cellsL (dn.map fun i => MA.d (.int i) (.int i)) = [] ∧ MA.ers (dn.map fun i => MA.d (.int i) (.int i)) = dn.map fun i => M.d (.int i)
  | [] => by simp [MA.cellsL, MA.ers]; unfold MA.oks; trivial
  | i :: r => by
    obtain ⟨h1, h2, h3⟩ := ints_oks (dn := r)
    simp only [List.map_cons, MA.cellsL, MA.ers, MA.cells, MA.er, h2, h3]
    unfold MA.oks MA.ok
    exact ⟨⟨rep_int, h1⟩, by simp⟩
theorem oks_app {ts us : List MA} (h : MA.oks K ct B ts) (g : MA.oks K ct B us) : MA.oks K ct B (ts ++ us) := oks_iff.mpr fun y hy => (List.mem_append.mp hy).elim (oks_iff.mp h y) (oks_iff.mp g y)
/-- from the arguments to the promise and back -/
theorem call_core {r : Fn} {mu : List Nat} {dn : List Int} {avs : List AV} {ms : List M} {m : M} {os : List M} {e2 : Env} {as : List AMA} {vs : List V} {B0 : Hp} {F : List Cell} {τ1 : TE0} {np : Nat} {Q : VK} {E : XK} (hnp : vs.length + dn.length = np)
    (st : St K ct B (as.flatMap AMA.cells ++ F) σ τ1 H) (vr : VRel K ct B σ as vs) (sb : Same B0 B) (em : as.map AMA.er = avs)
    (ht : takeA avs (erE τ1) = some (ms, e2)) (hr : r (ms ++ dn.map fun i => .d (.int i)) = some (m, os))
    (q : ∀ v H' B' t τ', Aft K ct B0 F σ m (backA avs mu os e2) v H' B' t τ' → Q v H') : spR K ct r mu np (vs ++ dn.map V.int) H Q E := by
  subst em
  obtain ⟨ts, τ2, h1, h2, h3, h4, h5⟩ := take_args st vr ht
  obtain ⟨d1, d2, d3⟩ := ints_oks (K := K) (ct := ct) (B := B) (dn := dn)
  refine ⟨by simp [← hnp], B, cellsE τ2 ++ F, ts ++ dn.map fun i => .d (.int i) (.int i), ?_, oks_app h4 d1, ?_, m, os, ?_, ?_⟩
  · rw [cellsL_app, d2, List.append_nil]
    exact h3.front
  · rw [List.map_append, h5, List.map_map]; rfl
  · rw [ers_map, List.map_append, ← ers_map, ← ers_map, h1, d3]; exact hr
  · intro v H' B' t us w sb' ok oks em' eo ev eu
    have s4 : St K ct B' (MA.cellsL us ++ (t.cells ++ F)) σ τ2 H' := by
      refine ⟨w.perm ?_, h3.ok.mono sb', h3.rel⟩
      have p : (t.cells ++ (MA.cellsL us ++ (cellsE τ2 ++ F))).Perm (cellsE τ2 ++ (MA.cellsL us ++ (t.cells ++ F))) := by
        have q1 : (t.cells ++ MA.cellsL us ++ cellsE τ2 ++ F).Perm (cellsE τ2 ++ (t.cells ++ MA.cellsL us) ++ F) := List.Perm.append_right _ List.perm_append_comm
        have q2 : (cellsE τ2 ++ (t.cells ++ MA.cellsL us) ++ F).Perm (cellsE τ2 ++ (MA.cellsL us ++ t.cells) ++ F) := List.Perm.append_right _ (List.Perm.append_left _ List.perm_append_comm)
        simpa only [List.append_assoc] using q1.trans q2
      exact p
    obtain ⟨τ5, s5, e5⟩ := back_args (mu := mu) (xs := vs ++ dn.map V.int) (vr.mono sb') (fun j i hj => by
      obtain ⟨v', z, _⟩ := vrel_get vr hj
      rw [List.getElem?_append_left (lt_of_some z)]) s4 oks eu
    exact q v H' B' t τ5 ⟨s5, ok, sb.trans sb', by rw [e5, h2, eo], em', ev⟩
theorem e_call {r : Fn} {mu : List Nat} {dn : List Int} {as : List SA} {np : Nat} {E : XK} {Q : VK} (hnp : as.length + dn.length = np) (h : TEf K ct (cCall r mu dn as) σ H Q) : L2.tCall (spR K ct r mu np) (dn.map V.int) E (TVs K ct as) σ H Q := by
  obtain ⟨B, F, τ, st, m, e', e, q⟩ := h
  unfold cCall at e
  split at e
  · cases e
  · rename_i avs e1 ha
    split at e
    · cases e
    · rename_i ms e2 ht
      split at e
      · rename_i m' os hr
        cases e
        refine ⟨B, F, τ, st, avs, e1, ha, fun vs H1 B1 ams τ1 a1 => ?_⟩
        have len1 : ∀ {as : List SA} {e e' : Env} {avs : List AV}, evA as e = some (avs, e') → avs.length = as.length := by
          intro as
          induction as with
          | nil => intro e e' avs h; simp only [evA, Option.some.injEq, Prod.mk.injEq] at h; rw [← h.1]; rfl
          | cons a as ih =>
            intro e e' avs h
            unfold evA at h
            split at h
            · split at h
              · rename_i h2
                cases h
                simp [ih h2]
              · cases h
            · cases h
        have len2 : ∀ {ams : List AMA} {vs : List V}, VRel K ct B1 σ ams vs → vs.length = ams.length := by
          intro ams
          induction ams with
          | nil => intro vs h; unfold VRel at h; subst h; rfl
          | cons a as ih => intro vs h; unfold VRel at h; obtain ⟨v, r, rfl, _, h2⟩ := h; simp [ih h2]
        have l1 := len1 ha
        have l2 := len2 a1.ok
        have l3 : avs.length = ams.length := by rw [← a1.em, List.length_map]
        exact call_core (by omega) a1.st a1.ok a1.sb a1.em (by rw [a1.ee]; exact ht) hr q
      · cases e
end
end Ev
set_option Elab.async false
set_option linter.all false
set_option maxRecDepth 100000
set_option maxHeartbeats 1000000
/-! Methods, new objects; a def keeps its promise. -/
namespace Ev
open PySem PySem.Spec PyProof.Rows PySem.Calls
open L2 (V HO Hp SqL SqT Same upd upd_same upd_ne Cx PE PT PA PI PG PS PSs Ends It Inv RelV Vals VK Gl TI XK Sp CXT FnOk Room Binds Passes Meth Cls)

section
variable {K : PySem.W.Frag} {ct : Str → Option Addr} {fx : List Nat} {B B' H H' : Hp} {F : List Cell} {σ σ' : L2.St} {τ : TE0}

theorem look_none : ∀ {ns : List Str} {vs : List V} {f : Str}, fIx ns f = none → (ns.zip vs).lookup f = none
  | [], vs, f, _ => rfl
  | n :: ns, [], f, _ => rfl
  | n :: ns, v :: vs, f, h => by
    unfold fIx at h
    rw [List.findIdx?_cons] at h
    by_cases e : n = f
    · subst e; simp at h
    · have e1 : (n == f) = false := by simpa using e
      rw [e1] at h
      simp only [Bool.false_eq_true, if_false, Option.map_eq_none_iff] at h
      rw [List.zip_cons_cons, List.lookup_cons]
      have e2 : (f == n) = false := by simpa using fun z => e z.symm
      rw [e2]
      exact look_none (ns := ns) h
/-- an object by its tree -/
theorem obj_at {t : MA} {f c : Str} (ok : t.ok K ct B) (sb : Same B H) (hc : ∀ x ∈ t.cells, H x.1 = some x.2) (e : t.er.cls f = some c) :
    ∃ C a dx fs, t.val = .ref a ∧ H a = some (.ins C dx fs) ∧ ct c = some C ∧ Cls K C ∧ fs.lookup f = none := by
  cases t with
  | d x v =>
    unfold MA.ok at ok
    simp only [MA.er] at e
    unfold M.cls at e
    split at e
    · rename_i c' ns xs hx
      cases hx
      split at e
      · rename_i hn
        cases e
        unfold RepD at ok
        obtain ⟨a, C, dx, vs, rfl, oc, hB, _, _⟩ := ok
        exact ⟨C, a, dx, _, rfl, sb _ _ hB, oc.at_, oc.cls, look_none hn⟩
      · cases e
    · rename_i hx; cases hx
    · cases e
  | lst a ts => simp [MA.er, M.cls] at e
  | obj c' C dx a ns ts =>
    unfold MA.ok at ok
    simp only [MA.er, M.cls] at e
    split at e
    · rename_i hn
      cases e
      exact ⟨C, a, dx, _, rfl, hc (a, .ins C dx (ns.zip (ts.map MA.val))) (by simp [MA.cells]), ok.1.at_, ok.1.cls, look_none hn⟩
    · cases e
end

section
variable {X : Cx}
/-- a method of the name m, by the class -/
def Cand (X : Cx) (CX : CXT) (m : Str) (C : Addr) (sp : Sp) (dvs : List V) : Prop :=
  ∃ k f fd ps ds, Meth X.K C m f ∧ FnOk X.prog X.w X.K X.mg X.base CX k f fd ps sp ∧ Room k X.A ∧ Binds X.K fd ps ds ∧ Vals dvs ds
def tMethU (X : Cx) (CX : CXT) (m : Str) (E : XK) (ta : L2.TE) (t : L2.TA) : L2.TE := fun σ H Q => ta σ H fun x H1 => ∃ C a dx fs sp dvs, x = .ref a ∧ H1 a = some (.ins C dx fs) ∧ Cls X.K C ∧ fs.lookup m = none ∧ Cand X CX m C sp dvs ∧
  t σ H1 fun vs H2 => sp (x :: (vs ++ dvs)) H2 Q E
variable {CX : CXT} {E : XK} {m : Str} {pos apos : Pos} {e o : Expr} {es : List Expr} {ta : L2.TE} {t : L2.TA}
theorem pe_methU {pl : Sem Bool} (he : PE X o ta) (hx : Passes CX X E) (ha : PA X (e :: es) t)
    (hst : starEach (e :: es) X.env = (false, eval e X.env) :: starEach es X.env) (hpl : (backTo pos (starEach es X.env)).any (·.1) = false)
    (ht : eval (.Call (.Attribute o m apos) (e :: es) [] pos) X.env = (do
      let ov ← eval o X.env
      standAt apos.atName
      let (f, first) ← holding [ov] (getMethod ov m pl)
      callWith pos f first (backTo pos (starEach (e :: es) X.env)) (backToKw pos (keywordEach [] X.env)))) :
    PE X (.Call (.Attribute o m apos) (e :: es) [] pos) (tMethU X CX m E ta t) := by
  refine ⟨fun pins s σ H Q I h => ?_⟩
  refine PySem.W.methodCall_KW (pl := pl) (L2.thn (he.run pins s σ H _ I h) fun u s1 ⟨x, H1, I1, rx, C, a, dx, fs, sp, dvs, ex, ea, c, l, ⟨k, f, fd, ps, ds, hm, F, hr, hb, hd⟩, q⟩ => ?_) ht
  subst ex
  obtain rfl : u = Value.ref a := rx
  refine L2.getmeth_ok I1 ea c hm l ?_
  refine PySem.W.callWith_K (first := [.ref a]) (h₀ := X.base) I.ok.mod.kin hm.kp (L2.thn (ha.run pos pins s1 σ H1 _ I1 q) fun us s2 ⟨vs, H2, I2, r, q2⟩ => ⟨I2.kIn, ?_⟩) hst hpl
  exact L2.run_fn (us := .ref a :: us) (vs := .ref a :: vs) F hr hb hd hx I2 (.cons rfl r) q2
theorem pe_methU0 {pl : Sem Bool} (he : PE X o ta) (hx : Passes CX X E)
    (ht : eval (.Call (.Attribute o m apos) [] [] pos) X.env = (do
      let ov ← eval o X.env
      standAt apos.atName
      let (f, first) ← holding [ov] (getMethod ov m pl)
      callWith pos f first (backTo pos (starEach [] X.env)) (backToKw pos (keywordEach [] X.env)))) :
    PE X (.Call (.Attribute o m apos) [] [] pos) (tMethU X CX m E ta L2.tNil) := by
  refine ⟨fun pins s σ H Q I h => ?_⟩
  refine PySem.W.methodCall_KW (pl := pl) (L2.thn (he.run pins s σ H _ I h) fun u s1 ⟨x, H1, I1, rx, C, a, dx, fs, sp, dvs, ex, ea, c, l, ⟨k, f, fd, ps, ds, hm, F, hr, hb, hd⟩, q⟩ => ?_) ht
  subst ex
  obtain rfl : u = Value.ref a := rx
  refine L2.getmeth_ok I1 ea c hm l ?_
  exact PySem.W.callWith_K0 (first := [.ref a]) I1.kIn hm.kp (L2.run_fn (us := [.ref a]) (vs := [.ref a]) F hr hb hd hx I1 (.cons rfl .nil) q)
end

section
variable {X : Cx} {ct : Str → Option Addr} {fx : List Nat} {B B' H H' : Hp} {F : List Cell} {σ σ' : L2.St} {τ : TE0} {CX : CXT} {E : XK}
theorem evA_len : ∀ {as : List SA} {e e' : Env} {avs : List AV}, evA as e = some (avs, e') → avs.length = as.length
  | [], e, e', avs, h => by simp only [evA, Option.some.injEq, Prod.mk.injEq] at h; rw [← h.1]; rfl
  | a :: as, e, e', avs, h => by
    unfold evA at h
    split at h
    · split at h
      · rename_i h2
        cases h
        simp [evA_len h2]
      · cases h
    · cases h
theorem vrel_len {K : PySem.W.Frag} : ∀ {ams : List AMA} {vs : List V}, VRel K ct B σ ams vs → vs.length = ams.length
  | [], vs, h => by unfold VRel at h; subst h; rfl
  | a :: as, vs, h => by unfold VRel at h; obtain ⟨v, r, rfl, _, h2⟩ := h; simp [vrel_len h2]
theorem e_meth {m : Str} {tb : Str → Option Mt} {a : SA} {as : List SA} {Q : VK} (hc : ∀ c t C, tb c = some t → ct c = some C → Cand X CX m C (spR X.K ct t.r t.mu (as.length + 1 + t.dn.length)) (t.dn.map V.int))
    (h : TEf X.K ct (cMeth m tb a as) σ H Q) : tMethU X CX m E (TVf X.K ct a) (TVs X.K ct as) σ H Q := by
  obtain ⟨B, F, τ, st, mm, e', e, q⟩ := h
  unfold cMeth at e
  split at e
  · cases e
  · rename_i av e1 ha
    split at e
    · cases e
    · rename_i c hcl
      split at e
      · cases e
      · rename_i t htb
        split at e
        · cases e
        · rename_i avs e2 has
          split at e
          · cases e
          · rename_i ms e3 ht
            split at e
            · rename_i m' os hr
              cases e
              refine ⟨B, F, τ, st, av, e1, ha, fun v H1 B1 am τ1 a1 => ?_⟩
              have st1 := a1.st
              simp only [List.flatMap_cons, List.flatMap_nil, List.append_nil] at st1
              have o1 := a1.ok
              unfold VRel at o1
              obtain ⟨v', r', z1, o1, _⟩ := o1
              cases z1
              have em1 := a1.em
              simp only [List.map_cons, List.map_nil, List.cons.injEq, and_true] at em1
              have at1 : ∃ C p dx fs, v = .ref p ∧ H1 p = some (.ins C dx fs) ∧ ct c = some C ∧ Cls X.K C ∧ fs.lookup m = none := by
                cases am with
                | m t0 =>
                  obtain ⟨o1, rfl⟩ := o1
                  subst em1
                  simp only [AMA.er, AV.cls] at hcl
                  exact obj_at o1 st1.wf.sub (fun x hx => (st1.wf.own x (List.mem_append_right _ (List.mem_append_left _ hx))).1) hcl
                | lend i =>
                  subst em1
                  simp only [AMA.er, AV.cls] at hcl
                  split at hcl
                  · rename_i mx hmx
                    rw [← a1.ee] at hmx
                    obtain ⟨t0, ht0, rfl⟩ := erE_slot hmx
                    have hv : t0.val = v := by
                      have z := st1.rel.at_ i t0 ht0
                      have o1' : σ[i]? = some (some v) := o1
                      rw [o1'] at z
                      exact (Option.some.inj (Option.some.inj z)).symm
                    rw [← hv]
                    exact obj_at (st1.ok i t0 ht0) st1.wf.sub (cell_of (p := []) st1 ht0 rfl) hcl
                  · cases hcl
              obtain ⟨C, p, dx, fs, ev, hp, hC, cls, lk⟩ := at1
              refine ⟨C, p, dx, fs, _, _, ev, hp, cls, lk, hc c t C htb hC, B1, am.cells ++ F, τ1, st1, avs, e2, by rw [a1.ee]; exact has, fun vs H2 B2 ams τ2 a2 => ?_⟩
              have l1 := evA_len has
              have l2 := vrel_len a2.ok
              have l3 : avs.length = ams.length := by rw [← a2.em, List.length_map]
              have st2 : St X.K ct B2 ((am :: ams).flatMap AMA.cells ++ F) σ τ2 H2 := by
                refine a2.st.framed ?_
                simp only [List.flatMap_cons]
                rw [← List.append_assoc]
                exact List.Perm.append_right _ List.perm_append_comm
              have vr2 : VRel X.K ct B2 σ (am :: ams) (v :: vs) := by
                unfold VRel
                exact ⟨v, vs, rfl, o1.mono a2.sb, a2.ok⟩
              exact call_core (vs := v :: vs) (by simp only [List.length_cons]; omega) st2 vr2 (a1.sb.trans a2.sb) (by simp [em1, a2.em]) (by rw [a2.ee]; exact ht) hr q
            · cases e
theorem e_make {c : Str} {C : Addr} {r : Fn} {dn : List Int} {as : List SA} {Q : VK} (hC : ct c = some C) (cls : Cls X.K C) (h : TEf X.K ct (cMake c r dn as) σ H Q) :
    L2.tMake C (spR X.K ct r [0] (as.length + 1 + dn.length)) (dn.map V.int) E (TVs X.K ct as) σ H Q := by
  obtain ⟨B, F, τ, st, mm, e', e, q⟩ := h
  unfold cMake at e
  split at e
  · cases e
  · rename_i avs e1 ha
    split at e
    · cases e
    · rename_i ms e2 ht
      split at e
      · rename_i o hr
        cases e
        refine ⟨B, F, τ, st, avs, e1, ha, fun vs H1 B1 ams τ1 a1 x dx hx hdx hne => ?_⟩
        have l1 := evA_len ha
        have l2 := vrel_len a1.ok
        have l3 : avs.length = ams.length := by rw [← a1.em, List.length_map]
        obtain ⟨ts, τ2, h1, h2, h3, h4, h5⟩ := take_args (as := ams) a1.st a1.ok (by rw [a1.em, a1.ee]; exact ht)
        obtain ⟨d1, d2, d3⟩ := ints_oks (K := X.K) (ct := ct) (B := B1) (dn := dn)
        have w1 := h3.front
        have w2 := Wf.owned (o := .own x) w1 hdx
        have w3 := Wf.owned (p := x) (o := .ins C dx []) w2 (by rw [upd_ne (Ne.symm hne)]; exact hx)
        refine ⟨by simp only [List.length_cons, List.length_append, List.length_map]; omega, B1, cellsE τ2 ++ F, .obj c C dx x [] [] :: (ts ++ dn.map fun i => .d (.int i) (.int i)), ?_, ?_, ?_, .d .non, [mm], ?_, ?_⟩
        · simp only [MA.cellsL, MA.cells, List.map_nil, List.zip_nil_right, List.cons_append, List.nil_append, cellsL_app, d2, List.append_nil]
          exact w3
        · unfold MA.oks MA.ok
          exact ⟨⟨⟨hC, cls, by simp, by simp⟩, rfl, by unfold MA.oks; trivial⟩, oks_app h4 d1⟩
        · simp only [List.map_cons, List.map_append, h5, MA.val, List.map_map]; rfl
        · simp only [MA.ers, MA.er]
          rw [ers_map, List.map_append, ← ers_map, ← ers_map, h1, d3]; exact hr
        · intro v H' B' t us w sb' ok oks em' eo ev eu
          have us1 : ∃ u, us = [u] ∧ u.er = mm ∧ u.val = .ref x := by
            cases us with
            | nil => simp [MA.ers] at eo
            | cons u us =>
              simp only [MA.ers, List.cons.injEq] at eo
              cases us with
              | nil => exact ⟨u, rfl, eo.1, by simpa using eu⟩
              | cons _ _ => simp [MA.ers] at eo
          obtain ⟨u, rfl, eu1, eu2⟩ := us1
          have vn : v = .non := by
            cases t with
            | d y w' =>
              simp only [MA.er, M.d.injEq] at em'
              subst em'
              unfold MA.ok RepD at ok
              rw [← ev]; exact ok
            | lst a ts => simp [MA.er] at em'
            | obj c C dx a ns ts => simp [MA.er] at em'
          refine ⟨vn, ?_⟩
          unfold MA.oks at oks
          have s4 : St X.K ct B' (u.cells ++ F) σ τ2 H' := by
            have wd := w.drop
            simp only [MA.cellsL, List.append_nil] at wd
            exact St.ofFront wd (h3.ok.mono sb') h3.rel
          exact q _ H' B' u τ2 ⟨s4, oks.1, a1.sb.trans sb', h2, eu1, eu2⟩
      · cases e
end
end Ev
set_option Elab.async false
set_option linter.all false
set_option maxRecDepth 100000
set_option maxHeartbeats 1000000
/-! A def keeps its promise. -/
namespace Ev
open PySem PySem.Spec PyProof.Rows PySem.Calls
open L2 (V HO Hp SqL SqT Same upd upd_same upd_ne Cx PE PT PA PI PG PS PSs Ends It Inv RelV Vals VK Gl TI XK Sp CXT FnOk Room Binds Passes Meth Cls CX0 cxOf FnScope)

section
variable {K : PySem.W.Frag} {ct : Str → Option Addr} {fx : List Nat} {B B' H H' : Hp} {F : List Cell} {σ σ' : L2.St} {τ : TE0}
theorem take_outs : ∀ {mu : List Nat} {τ : TE0} {F : List Cell} {os : List M}, St K ct B F σ τ H → takeO mu (erE τ) = some os →
    ∃ us τ2, MA.ers us = os ∧ St K ct B (MA.cellsL us ++ F) σ τ2 H ∧ MA.oks K ct B us ∧ us.map (fun u : MA => some (some u.val)) = mu.map (fun j : Nat => σ[j]?)
  | [], τ, F, os, st, e => by
    simp only [takeO, Option.some.injEq] at e
    subst e
    exact ⟨[], τ, by simp [MA.ers], by simpa [MA.cellsL] using st, by unfold MA.oks; trivial, rfl⟩
  | j :: mu, τ, F, os, st, e => by
    unfold takeO at e
    split at e
    · rename_i m hm
      split at e
      · rename_i ms hms
        cases e
        obtain ⟨t, ht, rfl⟩ := erE_slot hm
        have st1 := St.takeout (i := j) st ht
        have hms2 : takeO mu (erE (τ.set j none)) = some ms := by rw [erE_set]; exact hms
        obtain ⟨us, τ2, h1, h2, h3, h4⟩ := take_outs st1 hms2
        refine ⟨t :: us, τ2, by simp [MA.ers, h1], h2.framed ?_, by unfold MA.oks; exact ⟨st.ok j t ht, h3⟩, ?_⟩
        · simp only [MA.cellsL]
          rw [← List.append_assoc]
          exact List.Perm.append_right _ List.perm_append_comm
        · simp only [List.map_cons, h4]
          rw [st.rel.at_ j t ht]
      · cases e
    · cases e
theorem cells_start : ∀ {ts : List MA} {n : Nat}, cellsE (ts.map some ++ List.replicate n none) = MA.cellsL ts
  | [], n => by
    simp only [List.map_nil, List.nil_append, MA.cellsL, cellsE]
    induction n with
    | zero => rfl
    | succ n ih => rw [List.replicate_succ, List.flatMap_cons, ih]; rfl
  | t :: r, n => by
    simp only [List.map_cons, List.cons_append, MA.cellsL]
    rw [← cells_start (ts := r) (n := n)]
    simp [cellsE, cellsO]
theorem er_start {ts : List MA} {n : Nat} : erE (ts.map some ++ List.replicate (n - ts.length) none) = startE n (MA.ers ts) := by
  unfold erE startE
  rw [List.map_append, List.map_map, List.map_replicate, ers_map, List.map_map, List.length_map]
  rfl
theorem start_get {N : List Str} {vs : List V} {j : Nat} {v : V} (h : (L2.start N vs)[j]? = some (some v)) : vs[j]? = some v := by
  unfold L2.start at h
  by_cases hi : j < vs.length
  · rw [List.getElem?_append_left (by simpa using hi), List.getElem?_map] at h
    cases e : vs[j]? with
    | none => rw [e] at h; cases h
    | some a => rw [e] at h; simpa using h
  · rw [List.getElem?_append_right (by simpa using hi), List.getElem?_replicate] at h
    split at h <;> cases h
theorem outs_of {N : List Str} {vs : List V} {mu : List Nat} {us : List MA} (kp : ∀ i ∈ mu, σ[i]? = (L2.start N vs)[i]?) (h : us.map (fun u : MA => some (some u.val)) = mu.map (fun j : Nat => σ[j]?)) : us.map (fun u : MA => some u.val) = mu.map (fun j : Nat => vs[j]?) := by
  induction mu generalizing us with
  | nil =>
    have : us = [] := by simpa using h
    subst this; rfl
  | cons j mu ih =>
    cases us with
    | nil => simp at h
    | cons u us =>
      simp only [List.map_cons, List.cons.injEq] at h ⊢
      refine ⟨?_, ih (fun i hi => kp i (List.mem_cons_of_mem _ hi)) h.2⟩
      have z := h.1
      rw [kp j List.mem_cons_self] at z
      exact (start_get z.symm).symm
/-- a def as it stands -/
structure FnW (K : PySem.W.Frag) (x qual : Str) (params : Arguments) (body : List Stmt) (scope : Scope) (f : Addr) (fd : FuncData) : Prop where
  ex : ∃ (oc : Value) (od : Option Addr) (dV kV doc pm : Value) (an : Option Addr) (cdv ct : Value) (osl : Array (Option Value)),
    fd = PySem.W.fnOf x qual params body scope dV kV doc pm an cdv ct ∧ K.lookup f = some ⟨oc, od, .func fd, osl⟩ ∧ PySem.W.codeIn K cdv qual = true
theorem fn_def {P : Program} {w : World} {mg : Str → Option Value} {base : Heap} {x qual : Str} {params : Arguments} {body : List Stmt} {scope : Scope} {f : Addr} {fd : FuncData} {N ps : List Str} {k : Nat} {mu : List Nat} {g : SS}
    (W : FnW K x qual params body scope f fd) (S : FnScope N ps scope)
    (hb : ∀ (cdv : Value) (A : Around) (outer : List PySem.Env) (s : Shared) (H : Hp) (E : XK), Room k (A.deeper (envOfC qual scope s.heap.objs.size f cdv)) → PSs (cxOf CX0 P w K mg base N qual scope f cdv A outer s H E).nox body (TSf K ct mu g)) :
    FnOk P w K mg base CX0 (k + 1) f fd ps (spR K ct (runF g N.length ps.length mu) mu ps.length) := by
  obtain ⟨oc, od, dV, kV, doc, pm, an, cdv, ctv, osl, rfl, lk, hcd⟩ := W.ex
  refine L2.fn_of lk hcd S (fun vs H Q E h => h.1) fun A outer s H vs Q E hr hsp => ⟨TSf K ct mu g, (hb cdv A outer s H E hr).nox, ?_⟩
  obtain ⟨hl, B, F, ts, w, oks, hv, m, os, hrun, q⟩ := hsp
  have hpl : ps.length ≤ N.length := by have := congrArg List.length S.pre; rw [List.length_take] at this; omega
  have hts : ts.length = vs.length := by rw [← hv, List.length_map]
  unfold runF at hrun
  rw [if_pos (by rw [ers_map, List.length_map, hts, hl])] at hrun
  have st : St K ct B F (L2.start N vs) (ts.map some ++ List.replicate (N.length - ts.length) none) H := by
    refine ⟨by rw [cells_start]; exact w, fun i t e => ?_, ?_, fun i t e => ?_⟩
    · by_cases hi : i < ts.length
      · rw [List.getElem?_append_left (by simpa using hi), List.getElem?_map] at e
        cases h : ts[i]? with
        | none => rw [h] at e; cases e
        | some u =>
          rw [h] at e
          have e2 : u = t := by simpa using e
          subst e2
          exact oks_iff.mp oks u (List.mem_of_getElem? h)
      · rw [List.getElem?_append_right (by simpa using hi), List.getElem?_replicate] at e
        split at e <;> cases e
    · unfold L2.start
      simp only [List.length_append, List.length_map, List.length_replicate, hts]
    · by_cases hi : i < ts.length
      · rw [List.getElem?_append_left (by simpa using hi), List.getElem?_map] at e
        cases h : ts[i]? with
        | none => rw [h] at e; cases e
        | some u =>
          rw [h] at e
          have e2 : u = t := by simpa using e
          subst e2
          unfold L2.start
          rw [List.getElem?_append_left (by simp [← hts, hi]), ← hv, List.getElem?_map, List.getElem?_map, h]
          rfl
      · rw [List.getElem?_append_right (by simpa using hi), List.getElem?_replicate] at e
        split at e <;> cases e
  have fin : ∀ {σ' : L2.St} {τ' : TE0} {B' H' : Hp} {t : MA} {os : List M}, St K ct B' (t.cells ++ F) σ' τ' H' → (∀ i ∈ mu, σ'[i]? = (L2.start N vs)[i]?) → takeO mu (erE τ') = some os →
      ∃ us, Wf B' (t.cells ++ (MA.cellsL us ++ F)) H' ∧ MA.oks K ct B' us ∧ MA.ers us = os ∧ us.map (fun u : MA => some u.val) = mu.map (fun j : Nat => vs[j]?) := by
    intro σ' τ' B' H' t os s kp ho
    obtain ⟨us, τ2, h1, h2, h3, h4⟩ := take_outs s ho
    refine ⟨us, ?_, h3, h1, outs_of kp h4⟩
    refine (h2.wf.drop).perm ?_
    rw [← List.append_assoc, ← List.append_assoc]
    exact List.Perm.append_right _ List.perm_append_comm
  cases hg : g (startE N.length (MA.ers ts)) with
  | none => rw [hg] at hrun; cases hrun
  | some r =>
    rw [hg] at hrun
    refine ⟨B, F, _, st, r, by rw [er_start]; exact hg, ?_⟩
    cases r with
    | bk e => cases hrun
    | ct e => cases hrun
    | nx e =>
      simp only at hrun
      split at hrun
      · rename_i os' ho
        cases hrun
        intro σ' H' B' τ' a
        have s2 : St K ct B' ((MA.d .non .non).cells ++ F) σ' τ' H' := by simpa [MA.cells] using a.st
        obtain ⟨us, h1, h2, h3, h4⟩ := fin s2 a.kp (by rw [a.ee]; exact ho)
        exact q .non H' B' (.d .non .non) us h1 a.sb (by unfold MA.ok RepD; rfl) h2 (by simp [MA.er]) h3 rfl h4
      · cases hrun
    | rt m' e =>
      simp only at hrun
      split at hrun
      · rename_i os' ho
        cases hrun
        intro v σ' H' B' t τ' a
        obtain ⟨us, h1, h2, h3, h4⟩ := fin a.a.st a.kp (by rw [a.a.ee]; exact ho)
        exact q v H' B' t us h1 a.a.sb a.a.ok h2 a.a.em h3 a.a.ev h4
      · cases hrun
end
end Ev
set_option Elab.async false
set_option linter.all false
set_option maxRecDepth 100000
set_option maxHeartbeats 1000000
/-! The meaning of the text: from the syntax tree to the combinators. -/
namespace Ev
open PySem

/-- a block's names -/
structure Cn where
  N : List Str
  sc : Scope
  fn : Str → Bool
/-- what is known of the program: functions, classes (with their fields), methods, whole-number constants -/
structure FnI where
  r : Fn
  mu : List Nat
  np : Nat
  dn : List Int
structure Gt where
  fns : Str → Option FnI
  mks : Str → Option FnI
  mts : Str → Str → Option FnI
  cst : Str → Option D
  bl : Str → Option String
  fa : Str → Str → Bool
  wh : Nat
structure Sm where
  k : Cn → Expr → SK
  p : Cn → Expr → SP
  e : Cn → Expr → SE
  t : Cn → Expr → ST
def Sm.bot : Sm := ⟨fun _ _ _ => none, fun _ _ _ => none, fun _ _ _ => none, fun _ _ _ => none⟩

def ixOf (N : List Str) (x : Str) : Option Nat := N.findIdx? fun y => decide (y = x)
def vis (sc : Scope) (x : Str) : Bool := match sc.names.lookup x with | some .local => true | some .cell => true | some .free => true | _ => false
def isGl (sc : Scope) (x : Str) : Bool := match sc.names.lookup x with | some .globalImplicit => true | _ => false
def isDunder (x : Str) : Bool := decide (x = ("__debug__" : Str)) || decide (x = ("__classdict__" : Str)) || decide (x = ("__name__" : Str))
/-- the slot of a name that may be read -/
def rdSlot (C : Cn) (x : Str) : Option Nat := if vis C.sc x && !isDunder x then ixOf C.N x else none
/-- .. that may be bound -/
def wrSlot (C : Cn) (x : Str) : Option Nat := match C.sc.names.lookup x with
  | some .local => ixOf C.N x
  | some .cell => if C.fn x then ixOf C.N x else none
  | _ => none
def glob (C : Cn) (x : Str) : Bool := isGl C.sc x && !isDunder x
/-- no star, no set, no slice, no comprehension -/
def okX : Expr → Bool
  | .Starred .. => false
  | .Set .. => false
  | .Slice .. => false
  | .SetComp .. => false
  | .DictComp .. => false
  | _ => true
/-- what may stand ahead of a dot -/
def okB : Expr → Bool
  | .Call (.Name _ _) [] [] _ => false
  | _ => true
/-- a look -/
def isK (C : Cn) : Expr → Bool
  | .Name x _ => (rdSlot C x).isSome
  | .Attribute o _ _ => isK C o
  | .Subscript o _ _ => isK C o
  | _ => false
/-- a pure value -/
def isP (C : Cn) : Expr → Bool
  | .Constant .. => true
  | .Name _ _ => true
  | .Attribute o _ _ => isK C o
  | .Subscript o i _ => isK C o && isP C i
  | .BinOp a _ b _ => isP C a && isP C b
  | .UnaryOp .USub a _ => isP C a
  | _ => false
def isPath (C : Cn) : Expr → Bool
  | .Name x _ => (rdSlot C x).isSome
  | .Attribute o _ _ => isPath C o
  | .Subscript o i _ => isPath C o && isP C i && okX i
  | _ => false
def conD : Const → Option D
  | .int i => some (.int i)
  | .bool b => some (.bl b)
  | .none => some .non
  | .str s => some (.str s)
  | _ => none
def stK (G : Gt) (S : Sm) (C : Cn) : Expr → SK
  | .Name x _ => match rdSlot C x with
    | some i => kVar i
    | none => if glob C x then (match G.cst x with | some c => fun _ => some (.val c) | none => fun _ => none) else fun _ => none
  | .Attribute o f _ => if okB o then kFld (S.k C o) f else fun _ => none
  | .Subscript o i _ => if okX i then kIdx (S.k C o) (S.p C i) else fun _ => none
  | _ => fun _ => none
def stP (G : Gt) (S : Sm) (C : Cn) : Expr → SP
  | .Constant c _ _ => match conD c with | some d => pC d | none => fun _ => none
  | .BinOp a op b _ => pBin op (S.p C a) (S.p C b)
  | .UnaryOp .USub a _ => pNeg (S.p C a)
  | .Call (.Name f _) [a] [] _ => if glob C f && decide (f = ("len" : Str)) && okX a then pLen (S.k C a) else fun _ => none
  | .Name x p => pOf (S.k C (.Name x p))
  | .Attribute o f p => pOf (S.k C (.Attribute o f p))
  | .Subscript o i p => pOf (S.k C (.Subscript o i p))
  | _ => fun _ => none
def nil1 : SE := fun _ => none
/-- a built-in function of one sequence -/
def seqF (f : Str) : Option (D → Option M) :=
  if f = ("len" : Str) then some lenD else if f = ("list" : Str) then some lstD else if f = ("tuple" : Str) then some tupD else if f = ("sum" : Str) then some sumD
  else if f = ("min" : Str) then some minD else if f = ("max" : Str) then some maxD else if f = ("sorted" : Str) then some sortD
  else if f = ("all" : Str) then some allBD else if f = ("any" : Str) then some anyBD else none
/-- a module's built-in function -/
def blF (b : String) : Option (List D → Option M) := if b = "math.gcd" then some gcdL else if b = "math.comb" then some combL else none
def blE (S : Sm) (C : Cn) (b : String) (es : List Expr) : SE := match es with
  | [] => nil1
  | e :: r => if (e :: r).all okX then (match blF b with | some g => bV g ((e :: r).map (S.e C)) | none => nil1) else nil1
def tyN (x : Str) : Option String := if x = ("int" : Str) then some "int" else if x = ("bool" : Str) then some "bool" else if x = ("str" : Str) then some "str" else if x = ("tuple" : Str) then some "tuple" else if x = ("list" : Str) then some "list" else none
/-- an argument: lent, where the callee changes it -/
def argA (S : Sm) (C : Cn) (lend : Bool) (e : Expr) : SA := match lend, e with
  | true, .Name x _ => match rdSlot C x with | some i => aL i | none => aV nil1
  | _, e => aV (S.e C e)
def argAs (S : Sm) (C : Cn) (mu : List Nat) : Nat → List Expr → List SA
  | _, [] => []
  | j, e :: r => argA S C (mu.contains j) e :: argAs S C mu (j + 1) r
def FnI.fill (i : FnI) (n : Nat) : List Int := i.dn.drop (i.dn.length - (i.np - n))
def callE (S : Sm) (C : Cn) (i : FnI) (es : List Expr) : SE := if es.all okX && decide (es.length + (i.fill es.length).length = i.np) then cCall i.r i.mu (i.fill es.length) (argAs S C i.mu 0 es) else nil1
def makeE (S : Sm) (C : Cn) (c : Str) (i : FnI) (es : List Expr) : SE := if es.all okX && decide (i.mu = [0]) && decide (es.length + 1 + (i.fill (es.length + 1)).length = i.np) then cMake c i.r (i.fill (es.length + 1)) (es.map fun e => aV (S.e C e)) else nil1
def isNm (e : Expr) (f : Str) : Option (List Expr) := match e with | .Call (.Name g _) es [] _ => if g = f then some es else none | _ => none
/-- f(a), f a built-in function of one sequence -/
def stSeq (S : Sm) (C : Cn) (f : Str) (g : D → Option M) (a : Expr) : SE :=
  if f = ("len" : Str) ∧ isPath C a = true then cP (pLen (S.k C a))
  else match isNm a "set" with
    | some [b] => if f = ("len" : Str) ∧ glob C "set" = true ∧ okX b = true then (if isPath C b then bK lenSet (S.k C b) else bV (one lenSet) [S.e C b]) else nil1
    | some _ => nil1
    | none => match isNm a "range" with
      | some es => if f = ("list" : Str) ∧ glob C "range" = true ∧ es.all okX = true ∧ (es.length = 1 ∨ es.length = 2) then bV lstRange (es.map (S.e C)) else nil1
      | none => if isPath C a then bK g (S.k C a) else bV (one g) [S.e C a]
def stBlt (S : Sm) (C : Cn) (f : Str) (es : List Expr) : SE := match es with
  | [a] => if !okX a then nil1 else match seqF f with
    | some g => stSeq S C f g a
    | none => if f = ("int" : Str) then bV intL [S.e C a] else if f = ("abs" : Str) then bV absL [S.e C a] else nil1
  | [a, b] => if !(okX a && okX b) then nil1 else
    if f = ("isinstance" : Str) then (match b with
      | .Name T _ => if glob C T then (match tyN T with | some t => bV (one (isTs [t])) [S.e C a] | none => nil1) else nil1
      | .Tuple [.Name T _, .Name U _] _ _ => if glob C T && glob C U then (match tyN T, tyN U with | some t, some u => bV (one (isTs [t, u])) [S.e C a] | _, _ => nil1) else nil1
      | _ => nil1)
    else if f = ("min" : Str) then bV minL [S.e C a, S.e C b]
    else if f = ("max" : Str) then bV maxL [S.e C a, S.e C b] else nil1
  | _ => nil1
def isBlt (f : Str) : Bool := (seqF f).isSome || decide (f = ("int" : Str)) || decide (f = ("abs" : Str)) || decide (f = ("isinstance" : Str))
def Gt.meth (G : Gt) (m : Str) (n : Nat) : Str → Option Mt := fun c => match G.mts m c with
  | some i => if n + 1 + (i.fill (n + 1)).length = i.np then some ⟨i.r, i.mu, i.fill (n + 1)⟩ else none
  | none => none
def stCall (G : Gt) (S : Sm) (C : Cn) (f : Expr) (es : List Expr) (pos : Pos) : SE := match f with
  | .Name x _ => if glob C x then (match G.fns x with
      | some i => callE S C i es
      | none => match G.mks x with
        | some i => makeE S C x i es
        | none => match G.bl x with
          | some b => blE S C b es
          | none => if isBlt x then stBlt S C x es else nil1) else nil1
  | .Attribute o m apos => if okB o && okX o && es.all okX && (apos.endLine == pos.line) && decide (es.length < 20) then
      (if m = ("index" : Str) ∨ m = ("count" : Str) then (match es with
        | [a] => let mm := if m = ("index" : Str) then "index" else "count"
          if isPath C o && isP C a then mK mm (S.k C o) [S.p C a] else mV mm (S.e C o) [S.e C a]
        | _ => nil1)
      else cMeth m (G.meth m es.length) (argA S C true o) (es.map fun e => aV (S.e C e))) else nil1
  | _ => nil1
/-- own names of a comprehension -/
def ownL (N : List Str) : List (Str × NameKind) → Option (List (Str × Nat))
  | [] => some []
  | (x, k) :: r => match ownL N r with
    | none => none
    | some l => match k with
      | .local => if x = (".0" : Str) then some l else (match ixOf N x with | some i => some ((x, i) :: l) | none => none)
      | .cell => if x = (".0" : Str) then some l else (match ixOf N x with | some i => some ((x, i) :: l) | none => none)
      | _ => some l
mutual
def stG (C : Cn) : Expr → Option Tg
  | .Name x _ => match wrSlot C x with | some i => some (.n i) | none => none
  | .Tuple es _ _ => match stGs C es with | some gs => some (.t gs) | none => none
  | _ => none
def stGs (C : Cn) : List Expr → Option (List Tg)
  | [] => some []
  | e :: r => match stG C e with
    | some g => match stGs C r with | some gs => some (g :: gs) | none => none
    | none => none
end
def isTup : Expr → Bool | .Tuple .. => true | _ => false
def stI (S : Sm) (C : Cn) (tup : Bool) (e : Expr) : Option SI := if okX e = false then none else
  match isNm e "range" with
  | some es => if glob C "range" && es.all okX && (decide (es.length = 1) || decide (es.length = 2)) then some (iRng (es.map (S.e C))) else if glob C "range" && es.all okX && decide (es.length = 3) then some (iRngC (es.map (S.e C))) else none
  | none => match isNm e "enumerate" with
    | some es => (match es with | [a] => if glob C "enumerate" && okX a && tup then some (iEnum (S.e C a)) else none | _ => none)
    | none => match isNm e "reversed" with
      | some es => (match es with | [a] => if glob C "reversed" && okX a then some (iRev (S.e C a)) else none | _ => none)
      | none => match isNm e "zip" with
        | some es => (match es with | [a, b] => if glob C "zip" && okX a && okX b && tup then some (iZip (S.e C a) (S.e C b)) else none | _ => none)
        | none => some (iV (S.e C e))
def Cn.blk (C : Cn) (scope : Scope) : Cn := ⟨C.N, L2.relS scope C.sc, fun x => scope.names.lookup x == some .cell⟩
def stIfs (S : Sm) (C : Cn) : List Expr → Option ST
  | [] => some tYes
  | [c] => some (S.t C c)
  | _ => none
def stComp2 (S : Sm) (C : Cn) (elt tg iter : Expr) (ifs : List Expr) (tg1 iter1 : Expr) (ifs1 : List Expr) (scope : Scope) : SE := match ownL C.N scope.names with
  | some own => if L2.blkC C.N C.sc scope own then
      (match stI S C (isTup tg) iter, stG (C.blk scope) tg, stI S (C.blk scope) (isTup tg1) iter1, stG (C.blk scope) tg1, stIfs S (C.blk scope) ifs, stIfs S (C.blk scope) ifs1 with
      | some it, some g, some it1, some g1, some t, some t1 => if (g1.ns.all fun j => (own.map (·.2)).contains j) = true then cComp2 (own.map (·.2)) g1.ns it g t it1 g1 t1 (S.e (C.blk scope) elt) else nil1
      | _, _, _, _, _, _ => nil1) else nil1
  | none => nil1
def stComp (S : Sm) (C : Cn) (elt : Expr) (gs : List Comprehension) (scope : Scope) : SE := match gs with
  | [⟨tg, iter, ifs, 0⟩] => match ownL C.N scope.names with
    | some own => if L2.blkC C.N C.sc scope own then
        (match stI S C (isTup tg) iter, stG (C.blk scope) tg with
        | some it, some g => (match ifs with
          | [] => cComp (own.map (·.2)) it g tYes (S.e (C.blk scope) elt)
          | [c] => cComp (own.map (·.2)) it g (S.t (C.blk scope) c) (S.e (C.blk scope) elt)
          | _ => nil1)
        | _, _ => nil1) else nil1
    | none => nil1
  | [⟨tg, iter, ifs, 0⟩, ⟨tg1, iter1, ifs1, 0⟩] => stComp2 S C elt tg iter ifs tg1 iter1 ifs1 scope
  | _ => nil1
def andE : List SE → SE | [] => nil1 | [a] => a | a :: b :: r => cAnd a (andE (b :: r))
def orE : List SE → SE | [] => nil1 | [a] => a | a :: b :: r => cOr a (orE (b :: r))
def andT : List ST → ST | [] => fun _ => none | [a] => a | a :: b :: r => tAnd a (andT (b :: r))
def orT : List ST → ST | [] => fun _ => none | [a] => a | a :: b :: r => tOr a (orT (b :: r))
def stCmp (S : Sm) (C : Cn) (a : Expr) (op : CmpOp) (b : Expr) : SE := match op with
  | .In => if isPath C b && isP C a then cInK false (S.p C a) (S.k C b) else cIn false (S.e C a) (S.e C b)
  | .NotIn => if isPath C b && isP C a then cInK true (S.p C a) (S.k C b) else cIn true (S.e C a) (S.e C b)
  | op => cCmp op (S.e C a) (S.e C b)
def stE (G : Gt) (S : Sm) (C : Cn) : Expr → SE
  | .Constant c _ _ => match conD c with | some d => cP (pC d) | none => nil1
  | .Name x p => cK (S.k C (.Name x p))
  | .Attribute o f p => if okB o then (if isPath C o then cK (S.k C (.Attribute o f p)) else cFld (S.e C o) f) else nil1
  | .Subscript o i p => match i with
    | .Slice lo hi none _ => if (lo.all okX) && (hi.all okX) then cSl (S.e C o) (lo.map (S.e C)) (hi.map (S.e C)) else nil1
    | .Slice _ _ _ _ => nil1
    | i => if okX i then (if isPath C o && isP C i then cK (S.k C (.Subscript o i p)) else match o with
      | .Name x _ => (match rdSlot C x with | some j => cIxV j (S.e C i) | none => nil1)
      | o => cIx (S.e C o) (S.e C i)) else nil1
  | .BinOp a op b _ => cBin op (S.e C a) (S.e C b)
  | .UnaryOp .USub a _ => cNeg (S.e C a)
  | .UnaryOp .Not a _ => cNot (S.e C a)
  | .BoolOp .And es _ => andE (es.map (S.e C))
  | .BoolOp .Or es _ => orE (es.map (S.e C))
  | .Compare a [op] [b] _ => if okX b then stCmp S C a op b else nil1
  | .IfExp t a b _ => cIf (S.t C t) (S.e C a) (S.e C b)
  | .Tuple es _ _ => if es.all okX then cTup (es.map (S.e C)) else nil1
  | .List es _ => if es.all okX then cLst (es.map (S.e C)) else nil1
  | .Call f es [] pos => stCall G S C f es pos
  | .ListComp elt gs scope _ => stComp S C elt gs scope
  | _ => nil1
def stT (S : Sm) (C : Cn) : Expr → ST
  | .UnaryOp .Not a _ => tNot (S.t C a)
  | .BoolOp .And es _ => andT (es.map (S.t C))
  | .BoolOp .Or es _ => orT (es.map (S.t C))
  | .Compare a [op] [b] _ => if okX b then tB (stCmp S C a op b) else fun _ => none
  | .Compare _ _ _ _ => fun _ => none
  | .IfExp _ _ _ _ => fun _ => none
  | e => if isPath C e then tK (S.k C e) else tV (S.e C e)
def Sm.step (G : Gt) (S : Sm) : Sm := ⟨stK G S, stP G S, stE G S, stT S⟩
def sm (G : Gt) : Nat → Sm
  | 0 => Sm.bot
  | n + 1 => Sm.step G (sm G n)

/-! ### statements -/
def isCompX : Expr → Bool | .ListComp .. => true | .SetComp .. => true | .DictComp .. => true | _ => false
def freeOf (fx : List Nat) (ns : List Nat) : Bool := ns.all fun j => !fx.contains j
def stAsg (G : Gt) (S : Sm) (C : Cn) (fx : List Nat) (tg v : Expr) : SS := match tg with
  | .Name x p => match wrSlot C x with
    | some i => if freeOf fx [i] && okX v then sAsg i (S.e C v) else sFail
    | none => sFail
  | .Tuple es k p => if isTup v || isCompX v then sFail else match stG C (.Tuple es k p) with
    | some g => if freeOf fx g.ns then sTgt g (S.e C v) else sFail
    | none => sFail
  | .Subscript o i p => if okX i then sIdx (S.k C o) (S.p C i) (S.e C v) else sFail
  | .Attribute o f p => sFld G.fa (S.k C o) f (S.e C v)
  | _ => sFail
def stExp (S : Sm) (C : Cn) (e : Expr) : SS := match e with
  | .Constant (.str _) _ _ => sSkip
  | .Call (.Attribute o m apos) [a] [] pos => if m = ("append" : Str) then
      (if okX a && okB o && (apos.endLine == pos.line) then (match o with
        | .Name x _ => (match rdSlot C x with | some i => sApp i (S.e C a) | none => sFail)
        | o => sAppK (S.k C o) (S.p C a)) else sFail)
    else sDrop (S.e C e)
  | e => if isCompX e then sFail else sDrop (S.e C e)
def augS (C : Cn) (fx : List Nat) (S : Sm) (x : Str) (op : Operator) (e : Expr) : SS := match wrSlot C x with
  | some i => if freeOf fx [i] then (match op with | .Add => sAug i .Add (S.e C e) | .Sub => sAug i .Sub (S.e C e) | _ => sFail) else sFail
  | none => sFail
mutual
def stS (G : Gt) (S : Sm) (C : Cn) (fx : List Nat) : Stmt → SS
  | .Assign [tg] v _ => stAsg G S C fx tg v
  | .AugAssign (.Name x _) op e _ => augS C fx S x op e
  | .Expr e _ => stExp S C e
  | .Return none _ => sRetN
  | .Return (some (.Name x p)) _ => match rdSlot C x with | some i => sRetV i | none => sRet (S.e C (.Name x p))
  | .Return (some e) _ => sRet (S.e C e)
  | .If c a b _ => sIf (S.t C c) (stSs G S C fx a) (stSs G S C fx b)
  | .For tg it body [] _ => match stI S C (isTup tg) it, stG C tg with
    | some i, some g => if freeOf fx g.ns then sFor i g (stSs G S C fx body) else sFail
    | _, _ => sFail
  | .While c body [] _ => sWhile G.wh (S.t C c) (stSs G S C fx body)
  | .Assert t _ _ => sAssert (S.t C t)
  | .Break _ => sBreak
  | .Continue _ => sCont
  | .Pass _ => sSkip
  | _ => sFail
def stSs (G : Gt) (S : Sm) (C : Cn) (fx : List Nat) : List Stmt → SS
  | [] => sSkip
  | s :: r => sSeq (stS G S C fx s) (stSs G S C fx r)
end
end Ev
set_option Elab.async false
set_option linter.all false
set_option maxRecDepth 100000
set_option maxHeartbeats 1000000
/-! The text's meaning is what the machine does: expressions. -/
namespace Ev
open PySem PySem.Spec PyProof.Rows PySem.Calls
open L2 (V HO Hp SqL SqT Same upd upd_same upd_ne Cx PE PT PA PI PG PS PSs PW PO Ends It Inv RelV Vals VK Gl TI XK Sp CXT FnOk Room Binds Passes Meth Cls Mk CX0 FnScope OpR CallR IxR PlainIx)

/-! ### the text's forms -/
theorem star_of {e : Expr} {es : List Expr} {env : PySem.Env} (h : okX e = true) : starEach (e :: es) env = (false, eval e env) :: starEach es env := by
  cases e <;> first | rfl | (simp [okX] at h)
theorem star_one {e : Expr} {env : PySem.Env} (h : okX e = true) : starEach [e] env = [(false, eval e env)] := by rw [star_of h]; rfl
theorem star_any {pos : Pos} {env : PySem.Env} : ∀ {es : List Expr}, es.all okX = true → (backTo pos (starEach es env)).any (·.1) = false
  | [], _ => rfl
  | e :: es, h => by
    simp only [List.all_cons, Bool.and_eq_true] at h
    rw [star_of h.1]
    have ih := star_any (pos := pos) (env := env) h.2
    simp only [backTo, List.map_cons, List.any_cons] at ih ⊢
    simpa using ih
theorem base_of {o : Expr} {f : Str} {env : PySem.Env} (h : okB o = true) : attributeBase o f env (eval o env) = eval o env := by
  cases o with
  | Call fn as kws pos =>
    cases fn with
    | Name x p =>
      cases as with
      | nil =>
        cases kws with
        | nil => simp [okB] at h
        | cons _ _ => rfl
      | cons _ _ => rfl
    | _ => rfl
  | _ => rfl
theorem plain_of {e : Expr} (h : okX e = true) : PlainIx e := by
  intro o i
  cases e <;> first | rfl | (simp [okX] at h)
theorem mark_of {op : CmpOp} {e : Expr} (h : okX e = true) : behindInMarks op e = false := by
  cases e <;> first | rfl | (simp [okX] at h)
theorem fold_of {e : Expr} {env : PySem.Env} (h : okX e = true) : ∀ x, foldedSetIterable e env x = pure x := by
  intro x
  cases e <;> first | rfl | (simp [okX] at h)
theorem swap_of {e : Expr} {t : Option Expr} {l : Nat} {env : PySem.Env} (h : isCompX e = false) : swapsWith e t l env = pure false := by
  cases e <;> first | rfl | (simp [isCompX] at h)
theorem swap_att {e o : Expr} {f : Str} {p : Pos} {l : Nat} {env : PySem.Env} : swapsWith e (some (.Attribute o f p)) l env = pure false := by
  cases e <;> rfl
theorem swap_sub {e o i : Expr} {p : Pos} {l : Nat} {env : PySem.Env} : swapsWith e (some (.Subscript o i p)) l env = pure false := by
  cases e <;> rfl
theorem ix_of : ∀ {N : List Str} {x : Str} {i : Nat}, ixOf N x = some i → N[i]? = some x := by
  intro N x i h
  unfold ixOf at h
  obtain ⟨h1, h2, _⟩ := List.findIdx?_eq_some_iff_getElem.mp h
  rw [List.getElem?_eq_getElem h1]
  simpa using h2

/-! ### what is known -/
section
variable (P : Program) (w : World) (K : PySem.W.Frag) (mg : Str → Option Value) (base : Heap) (A : Around) (ct : Str → Option Addr) (G : Gt)
def Bnd (i : FnI) (fd : FuncData) (ps : List Str) : Prop := ps.length = i.np ∧ ∀ n, n + (i.fill n).length = i.np → ∃ ds, Vals ((i.fill n).map V.int) ds ∧ Binds K fd ps ds
structure Wo : Prop where
  un : A.units + 64 < cLine
  free : ∀ b ∈ ["len", "list", "tuple", "sum", "min", "max", "sorted", "int", "abs", "isinstance", "set", "range", "enumerate", "reversed", "zip", "bool", "str", "all", "any"], mg (Str.ofString b) = none
  cst : ∀ x c, G.cst x = some c → ∃ v u, mg x = some u ∧ RelV v u ∧ ∀ B, RepD K ct B c v
  bl : ∀ x b, G.bl x = some b → mg x = some (.builtin b)
  fns : ∀ x i, G.fns x = some i → ∃ k f fd ps, mg x = some (.ref f) ∧ PySem.W.keepIn K (.ref f) = true ∧ FnOk P w K mg base CX0 k f fd ps (spR K ct i.r i.mu i.np) ∧ Room k A ∧ Bnd K i fd ps
  mks : ∀ x i, G.mks x = some i → ∃ k C f fd ps, mg x = some (.ref C) ∧ ct x = some C ∧ Cls K C ∧ Mk K C f ∧ FnOk P w K mg base CX0 k f fd ps (spR K ct i.r i.mu i.np) ∧ Room (k + 1) A ∧ Bnd K i fd ps
  mts : ∀ m c i C, G.mts m c = some i → ct c = some C → ∃ k f fd ps, Meth K C m f ∧ FnOk P w K mg base CX0 k f fd ps (spR K ct i.r i.mu i.np) ∧ Room k A ∧ Bnd K i fd ps
  fa : ∀ c f C, G.fa c f = true → ct c = some C → L2.NoAttr K C f
end
structure Fac (X : Cx) (ct : Str → Option Addr) (G : Gt) (C : Cn) : Prop where
  N : X.N = C.N
  sc : X.env.scope = C.sc
  fn : X.fn = C.fn
  calm : X.calm = true
  nd : X.N.Nodup
  nox : X.xe = fun _ _ => False
  kind : X.env.scope.kind = .function
  w : Wo X.prog X.w X.K X.mg X.base X.A ct G
structure SOk (ct : Str → Option Addr) (G : Gt) (S : Sm) : Prop where
  k : ∀ X C, Fac X ct G C → ∀ e, PE X e (TKf X.K ct (S.k C e))
  p : ∀ X C, Fac X ct G C → ∀ e, PE X e (TPf X.K ct (S.p C e))
  e : ∀ X C, Fac X ct G C → ∀ e, PE X e (TEf X.K ct (S.e C e))
  t : ∀ X C, Fac X ct G C → ∀ e, PT X e (TTf X.K ct (S.t C e))
section
variable {X : Cx} {ct : Str → Option Addr} {G : Gt} {C : Cn} {S : Sm}
theorem failK {e : Expr} : PE X e (TKf X.K ct fun _ => none) := ⟨fun _ _ _ _ _ _ ⟨_, _, _, _, _, h, _⟩ => by cases h⟩
theorem failP {e : Expr} : PE X e (TPf X.K ct fun _ => none) := ⟨fun _ _ _ _ _ _ ⟨_, _, _, _, _, h, _⟩ => by cases h⟩
theorem failE {e : Expr} : PE X e (TEf X.K ct nil1) := ⟨fun _ _ _ _ _ _ ⟨_, _, _, _, _, _, h, _⟩ => by cases h⟩
theorem failT {e : Expr} : PT X e (TTf X.K ct fun _ => none) := ⟨fun _ _ _ _ _ _ ⟨_, _, _, _, _, _, h, _⟩ => by cases h⟩
theorem bot_ok : SOk ct G Sm.bot := ⟨fun _ _ _ _ => failK, fun _ _ _ _ => failP, fun _ _ _ _ => failE, fun _ _ _ _ => failT⟩
theorem rd_of (F : Fac X ct G C) {x : Str} {i : Nat} (h : rdSlot C x = some i) : X.N[i]? = some x ∧ L2.Vis X.env.scope x ∧ (x == ("__debug__" : Str)) = false ∧ (x == ("__classdict__" : Str)) = false := by
  unfold rdSlot at h
  split at h
  · rename_i hc
    simp only [Bool.and_eq_true, Bool.not_eq_true', isDunder, Bool.or_eq_false_iff, decide_eq_false_iff_not] at hc
    refine ⟨by rw [F.N]; exact ix_of h, ?_, by simpa using hc.2.1.1, by simpa using hc.2.1.2⟩
    unfold L2.Vis
    rw [F.sc]
    have hv := hc.1
    unfold vis at hv
    split at hv <;> first | (rename_i z; rw [z]; simp) | cases hv
  · cases h
theorem wr_of (F : Fac X ct G C) {x : Str} {i : Nat} (h : wrSlot C x = some i) : X.N[i]? = some x ∧ L2.Loc X.env.scope x ∧ (X.fn x = true ∨ X.env.scope.names.lookup x = some .local) := by
  unfold wrSlot at h
  split at h
  · rename_i hl
    exact ⟨by rw [F.N]; exact ix_of h, .inl (by rw [F.sc]; exact hl), .inr (by rw [F.sc]; exact hl)⟩
  · rename_i hl
    split at h
    · rename_i hf
      exact ⟨by rw [F.N]; exact ix_of h, .inr (by rw [F.sc]; exact hl), .inl (by rw [F.fn]; exact hf)⟩
    · cases h
  · cases h
theorem gl_of (F : Fac X ct G C) {x : Str} (h : glob C x = true) : Gl X x ∧ (x == ("__debug__" : Str)) = false ∧ x ≠ ("__name__" : Str) := by
  unfold glob at h
  simp only [Bool.and_eq_true, Bool.not_eq_true', isDunder, Bool.or_eq_false_iff, decide_eq_false_iff_not] at h
  refine ⟨?_, by simpa using h.2.1.1, h.2.2⟩
  have hg := h.1
  unfold isGl at hg
  unfold L2.Gl
  show X.env.scope.names.lookup x = _
  rw [F.sc]
  split at hg
  · assumption
  · cases hg
theorem ixlt : IxR X (fun x y H Q => L2.rIxL X.K x y H Q ∨ L2.rIxT X.K x y H Q) := by
  intro ea eb pins s σ H x y v u Q I rx ry h hsub
  rcases h with h | h
  · exact L2.ix_list ea eb pins s σ H x y v u Q I rx ry h hsub
  · exact L2.ix_tup ea eb pins s σ H x y v u Q I rx ry h hsub
theorem c_cst {K : PySem.W.Frag} {c : D} {v : V} (hr : ∀ B, RepD K ct B c v) {σ : L2.St} {H : Hp} {Q : VK} (h : TKf K ct (fun _ => some (.val c)) σ H Q) : L2.tC v σ H Q := by
  obtain ⟨B, F, τ, st, pv, e, q⟩ := h
  cases e
  exact q v (hr B)
theorem c_p {K : PySem.W.Frag} {c : D} {v : V} (hr : ∀ B, RepD K ct B c v) {σ : L2.St} {H : Hp} {Q : VK} (h : TPf K ct (pC c) σ H Q) : L2.tC v σ H Q := by
  obtain ⟨B, F, τ, st, pv, e, q⟩ := h
  cases e
  exact q v (hr B)
theorem ok_k (O : SOk ct G S) (F : Fac X ct G C) (e : Expr) : PE X e (TKf X.K ct (stK G S C e)) := by
  cases e with
  | Name x p =>
    simp only [stK]
    split
    · rename_i i hi
      obtain ⟨h1, h2, h3, h4⟩ := rd_of F hi
      exact PEw (L2.pe_var h1 h2 h3 h4) fun _ _ _ h => k_var h
    · split
      · rename_i hg
        obtain ⟨g1, g2, g3⟩ := gl_of F hg
        split
        · rename_i c hc
          obtain ⟨v, u, ht, rv, hr⟩ := F.w.cst x c hc
          exact PEw (L2.pe_glob g1 ht (v := v) rv g2) fun _ _ _ h => c_cst hr h
        · exact failK
      · exact failK
  | Attribute o f p =>
    simp only [stK]
    split
    · rename_i hb
      exact PEw (L2.pe_fld (O.k X C F o) (base_of hb)) fun _ _ _ h => k_fld h
    · exact failK
  | Subscript o i p =>
    simp only [stK]
    split
    · rename_i hb
      exact PEw (L2.pe_ix ixlt (O.k X C F o) (O.p X C F i) (plain_of hb)) fun _ _ _ h => k_idx h
    · exact failK
  | _ => exact failK
theorem pe_con {c : Const} {d : D} {j : Nat} {pos : Pos} (h : conD c = some d) : PE X (.Constant c j pos) (TPf X.K ct (pC d)) := by
  cases c with
  | int i => cases h; exact PEw L2.pe_int fun _ _ _ h => c_p (fun B => rep_int) h
  | bool b => cases h; exact PEw L2.pe_bl fun _ _ _ h => c_p (fun B => rep_bl) h
  | none => cases h; exact PEw L2.pe_non fun _ _ _ h => c_p (fun B => rep_non) h
  | str s => cases h; exact PEw L2.pe_str fun _ _ _ h => c_p (v := .str s) (fun B => by unfold RepD; rfl) h
  | _ => cases h
theorem blt_free (F : Fac X ct G C) {b : String} (h : b ∈ ["len", "list", "tuple", "sum", "min", "max", "sorted", "int", "abs", "isinstance", "set", "range", "enumerate", "reversed", "zip", "bool", "str", "all", "any"]) : X.mg (Str.ofString b) = none := F.w.free b h
theorem ok_p (O : SOk ct G S) (F : Fac X ct G C) (e : Expr) : PE X e (TPf X.K ct (stP G S C e)) := by
  cases e with
  | Constant c j pos =>
    simp only [stP]
    split
    · rename_i d hd
      exact pe_con hd
    · exact failP
  | BinOp a op b pos =>
    simp only [stP]
    exact PEw (L2.pe_op (opr_bin op) (O.p X C F a) (O.p X C F b)) fun _ _ _ h => p_bin h
  | UnaryOp op a pos =>
    cases op with
    | USub => simp only [stP]; exact PEw (L2.pe_un L2.un_neg (O.p X C F a)) fun _ _ _ h => p_neg h
    | _ => exact failP
  | Name x p => simp only [stP]; exact PEw (O.k X C F _) fun _ _ _ h => p_of h
  | Attribute o f p => simp only [stP]; exact PEw (O.k X C F _) fun _ _ _ h => p_of h
  | Subscript o i p => simp only [stP]; exact PEw (O.k X C F _) fun _ _ _ h => p_of h
  | Call f es kws pos =>
    unfold stP
    split
    all_goals first | exact failP | skip
    all_goals rename_i heq
    all_goals try cases heq
    split
    · rename_i hg
      simp only [Bool.and_eq_true, decide_eq_true_eq] at hg
      obtain ⟨⟨hg, rfl⟩, hok⟩ := hg
      obtain ⟨g1, g2, g3⟩ := gl_of F hg
      exact PEw (L2.pe_callB L2.call_len_seq g1 (blt_free F (b := "len") (by simp)) boot_len (L2.pa_cons (O.k X C F _) L2.pa_nil (star_of hok)) g3 g2 (star_of hok) rfl) fun _ _ _ h => p_len h
    · exact failP
  | _ => exact failP
end
end Ev
set_option Elab.async false
set_option linter.all false
set_option maxRecDepth 100000
set_option maxHeartbeats 1000000
/-! .. values and tests. -/
namespace Ev
open PySem PySem.Spec PyProof.Rows PySem.Calls
open L2 (V HO Hp SqL SqT Same upd upd_same upd_ne Cx PE PT PA PI PG PS PSs PW PO Ends It Inv RelV Vals VK Gl TI XK Sp CXT FnOk Room Binds Passes Meth Cls Mk CX0 FnScope OpR CallR IxR PlainIx)

section
variable {X : Cx} {ct : Str → Option Addr} {G : Gt} {C : Cn} {S : Sm}
theorem rFn_mono {f g : List D → Option M} (h : ∀ ds m, f ds = some m → g ds = some m) {K : PySem.W.Frag} {vs : List V} {H : Hp} {Q : VK} (q : rFn K ct f vs H Q) : rFn K ct g vs H Q := by
  obtain ⟨B, ds, m, sb, hd, e, q⟩ := q
  exact ⟨B, ds, m, sb, hd, h _ _ e, q⟩
theorem call_mono {v : Value} {r r' : List V → Hp → VK → Prop} (h : CallR X v r) (m : ∀ vs H Q, r' vs H Q → r vs H Q) : CallR X v r' := fun pins s σ H vs us Q I rv q => h pins s σ H vs us Q I rv (m _ _ _ q)
/-- the built-in functions of one sequence -/
theorem seq_call (F : Fac X ct G C) {f : Str} {g : D → Option M} (h : seqF f = some g) : ∃ v, bootBuiltins f = some v ∧ CallR X v (rFn X.K ct (one g)) ∧ X.mg f = none ∧ ((∃ s, v = .builtin s) ∨ ∃ s, v = .type s) := by
  have o1 : ∀ {m : D → Option M} {n : List D → Option M}, (∀ x, n [x] = m x) → ∀ ds z, one m ds = some z → n ds = some z := by
    intro m n hmn ds z hz
    unfold one at hz
    split at hz
    · rw [hmn]; exact hz
    · cases hz
  unfold seqF at h
  split at h
  · rename_i e; subst e; cases h
    exact ⟨_, boot_len, cr_len, blt_free F (b := "len") (by simp), .inl ⟨_, rfl⟩⟩
  · split at h
    · rename_i e; subst e; cases h
      exact ⟨_, PyProof.Rows.boot_list, cr_list, blt_free F (b := "list") (by simp), .inr ⟨_, rfl⟩⟩
    · split at h
      · rename_i e; subst e; cases h
        exact ⟨_, PyProof.Rows.boot_tuple, cr_tuple, blt_free F (b := "tuple") (by simp), .inr ⟨_, rfl⟩⟩
      · split at h
        · rename_i e; subst e; cases h
          exact ⟨_, PyProof.Rows.boot_sum, cr_sum F.calm, blt_free F (b := "sum") (by simp), .inl ⟨_, rfl⟩⟩
        · split at h
          · rename_i e; subst e; cases h
            exact ⟨_, PyProof.Rows.boot_min, call_mono (cr_min F.calm F.w.un) fun _ _ _ q => rFn_mono (o1 fun x => rfl) q, blt_free F (b := "min") (by simp), .inl ⟨_, rfl⟩⟩
          · split at h
            · rename_i e; subst e; cases h
              exact ⟨_, PyProof.Rows.boot_max, call_mono (cr_max F.calm F.w.un) fun _ _ _ q => rFn_mono (o1 fun x => rfl) q, blt_free F (b := "max") (by simp), .inl ⟨_, rfl⟩⟩
            · split at h
              · rename_i e; subst e; cases h
                exact ⟨_, PyProof.Rows.boot_sorted, cr_sorted F.w.un, blt_free F (b := "sorted") (by simp), .inl ⟨_, rfl⟩⟩
              · split at h
                · rename_i e; subst e; cases h
                  exact ⟨_, boot_all, cr_all2 F.calm, blt_free F (b := "all") (by simp), .inl ⟨_, rfl⟩⟩
                · split at h
                  · rename_i e; subst e; cases h
                    exact ⟨_, boot_any, cr_any2 F.calm, blt_free F (b := "any") (by simp), .inl ⟨_, rfl⟩⟩
                  · cases h
/-- a call of a built-in function or type -/
theorem pe_blt {f : Str} {v : Value} {r : List V → Hp → VK → Prop} {p pos : Pos} {e : Expr} {es : List Expr} {t : L2.TA} (hv : bootBuiltins f = some v) (hc : CallR X v r) (hm : X.mg f = none) (hk : (∃ s, v = .builtin s) ∨ ∃ s, v = .type s) (g1 : Gl X f) (g2 : (f == ("__debug__" : Str)) = false) (g3 : f ≠ ("__name__" : Str))
    (hok : (e :: es).all okX = true) (ha : PA X (e :: es) t) : PE X (.Call (.Name f p) (e :: es) [] pos) (L2.tCB r t) := by
  simp only [List.all_cons, Bool.and_eq_true] at hok
  rcases hk with ⟨s, rfl⟩ | ⟨s, rfl⟩
  · exact L2.pe_callB hc g1 hm hv ha g3 g2 (star_of hok.1) (star_any hok.2)
  · exact L2.pe_callTy hc g1 hm hv ha g3 g2 (star_of hok.1) (star_any hok.2)
theorem pa_of (O : SOk ct G S) (F : Fac X ct G C) : ∀ {es : List Expr}, es.all okX = true → PA X es (TAf X.K ct (es.map (S.e C)))
  | [], _ => PAw L2.pa_nil fun _ _ _ h => a_nil h
  | e :: es, h => by
    simp only [List.all_cons, Bool.and_eq_true] at h
    exact PAw (L2.pa_cons (O.e X C F e) (pa_of O F h.2) (star_of h.1)) fun _ _ _ q => a_cons q
theorem pq_of (O : SOk ct G S) (F : Fac X ct G C) {a : Expr} (h : okX a = true) : PA X [a] (TQf X.K ct [S.p C a]) :=
  PAw (L2.pa_cons (O.p X C F a) L2.pa_nil (star_of h)) fun σ H Q q => by
    obtain ⟨B, F, τ, st, x, hx, k⟩ := q_cons q
    exact ⟨B, F, τ, st, x, hx, fun v hv => q_nil (k v hv)⟩
theorem nm_of {e : Expr} {f : Str} {es : List Expr} (h : isNm e f = some es) : ∃ p pos, e = .Call (.Name f p) es [] pos := by
  unfold isNm at h
  split at h
  · split at h
    · rename_i e1
      subst e1
      cases h
      exact ⟨_, _, rfl⟩
    · cases h
  · cases h
theorem path_k : True := trivial
theorem ok_seq (O : SOk ct G S) (F : Fac X ct G C) {f : Str} {g : D → Option M} {a : Expr} {p pos : Pos} (hs : seqF f = some g) (hg : glob C f = true) (hok : okX a = true) : PE X (.Call (.Name f p) [a] [] pos) (TEf X.K ct (stSeq S C f g a)) := by
  obtain ⟨g1, g2, g3⟩ := gl_of F hg
  obtain ⟨v, hv, hc, hm, hk⟩ := seq_call F hs
  have okl : ([a] : List Expr).all okX = true := by simp [hok]
  unfold stSeq
  split
  · rename_i h
    obtain ⟨rfl, _⟩ := h
    exact PEw (L2.pe_callB L2.call_len_seq g1 (blt_free F (b := "len") (by simp)) boot_len (L2.pa_cons (O.k X C F _) L2.pa_nil (star_of hok)) g3 g2 (star_of hok) rfl) fun _ _ _ h => p_len (e_pure h)
  · split
    · rename_i b hb
      split
      · rename_i h
        obtain ⟨rfl, h2, h3⟩ := h
        obtain ⟨p2, pos2, rfl⟩ := nm_of hb
        obtain ⟨q1, q2, q3⟩ := gl_of F h2
        have st2 : starEach [b] X.env = (false, eval b X.env) :: starEach [] X.env := star_of h3
        split
        · exact PEw (pe_lenSet g1 (blt_free F (b := "len") (by simp)) q1 (blt_free F (b := "set") (by simp)) (O.k X C F b) F.calm st2) fun _ _ _ h => e_lenSetK h
        · exact PEw (pe_lenSet g1 (blt_free F (b := "len") (by simp)) q1 (blt_free F (b := "set") (by simp)) (O.e X C F b) F.calm st2) fun _ _ _ h => e_lenSet h
      · exact failE
    · exact failE
    · split
      · rename_i es hes
        split
        · rename_i h
          obtain ⟨rfl, h2, h3, h4⟩ := h
          obtain ⟨p2, pos2, rfl⟩ := nm_of hes
          obtain ⟨q1, q2, q3⟩ := gl_of F h2
          have na : starEach [Expr.Call (.Name "range" p2) es [] pos2] X.env = (false, eval (Expr.Call (.Name "range" p2) es [] pos2) X.env) :: starEach [] X.env := star_of rfl
          match es, h3, h4 with
          | [x], h3, _ =>
            simp only [List.all_cons, List.all_nil, Bool.and_true] at h3
            exact PEw (L2.pe_listRg F.calm g1 (blt_free F (b := "list") (by simp)) (L2.prg_1 q1 (blt_free F (b := "range") (by simp)) (O.e X C F x) (star_of h3)) na) fun _ _ _ h => e_lrg1 h
          | [x, y], h3, _ =>
            simp only [List.all_cons, List.all_nil, Bool.and_true, Bool.and_eq_true] at h3
            exact PEw (L2.pe_listRg F.calm g1 (blt_free F (b := "list") (by simp)) (L2.prg_2 q1 (blt_free F (b := "range") (by simp)) (O.e X C F x) (O.e X C F y) (star_of h3.1) (star_of h3.2) (star_any (es := [y]) (by simp [h3.2]))) na) fun _ _ _ h => e_lrg2 h
          | [], _, h4 => simp at h4
          | _ :: _ :: _ :: _, _, h4 => simp at h4
        · exact failE
      · split
        · exact PEw (pe_blt hv hc hm hk g1 g2 g3 okl (L2.pa_cons (O.k X C F a) L2.pa_nil (star_of hok))) fun _ _ _ h => e_bK h
        · exact PEw (pe_blt hv hc hm hk g1 g2 g3 okl (pa_of O F okl)) fun _ _ _ h => e_bV h
theorem ty_of (F : Fac X ct G C) {T : Str} {t : String} (h : tyN T = some t) (hg : glob C T = true) {p : Pos} : PE X (.Name T p) (L2.tC (.ty t)) := by
  obtain ⟨g1, g2, g3⟩ := gl_of F hg
  unfold tyN at h
  split at h
  · rename_i e; subst e; cases h; exact L2.pe_bltn g1 (blt_free F (b := "int") (by simp)) (PyProof.Rows.boot_int) rfl g3 g2
  · split at h
    · rename_i e; subst e; cases h; exact L2.pe_bltn g1 (blt_free F (b := "bool") (by simp)) (PyProof.Rows.boot_bool) rfl g3 g2
    · split at h
      · rename_i e; subst e; cases h; exact L2.pe_bltn g1 (blt_free F (b := "str") (by simp)) (PyProof.Rows.boot_str) rfl g3 g2
      · split at h
        · rename_i e; subst e; cases h; exact L2.pe_bltn g1 (blt_free F (b := "tuple") (by simp)) (PyProof.Rows.boot_tuple) rfl g3 g2
        · split at h
          · rename_i e; subst e; cases h; exact L2.pe_bltn g1 (blt_free F (b := "list") (by simp)) (PyProof.Rows.boot_list) rfl g3 g2
          · cases h
theorem ok_blt (O : SOk ct G S) (F : Fac X ct G C) {f : Str} {es : List Expr} {p pos : Pos} (hg : glob C f = true) : PE X (.Call (.Name f p) es [] pos) (TEf X.K ct (stBlt S C f es)) := by
  obtain ⟨g1, g2, g3⟩ := gl_of F hg
  unfold stBlt
  split
  · rename_i a
    split
    · exact failE
    · rename_i hok
      have hok : okX a = true := by simpa using hok
      have okl : ([a] : List Expr).all okX = true := by simp [hok]
      split
      · rename_i g hs
        exact ok_seq O F hs hg hok
      · split
        · rename_i e; subst e
          exact PEw (pe_blt PyProof.Rows.boot_int cr_int (blt_free F (b := "int") (by simp)) (.inr ⟨_, rfl⟩) g1 g2 g3 okl (pa_of O F okl)) fun _ _ _ h => e_bV h
        · split
          · rename_i e; subst e
            exact PEw (pe_blt PyProof.Rows.boot_abs cr_abs (blt_free F (b := "abs") (by simp)) (.inl ⟨_, rfl⟩) g1 g2 g3 okl (pa_of O F okl)) fun _ _ _ h => e_bV h
          · exact failE
  · rename_i a b
    split
    · exact failE
    · rename_i hok
      have hok : okX a = true ∧ okX b = true := by simpa using hok
      have okl : ([a, b] : List Expr).all okX = true := by simp [hok]
      split
      · rename_i e; subst e
        split
        · rename_i T q
          split
          · rename_i hT
            split
            · rename_i t ht
              exact PEw (L2.pe_callB L2.call_isi g1 (blt_free F (b := "isinstance") (by simp)) PyProof.Rows.boot_isinstance (L2.pa_cons (O.e X C F a) (L2.pa_cons (ty_of F ht hT) L2.pa_nil (star_of hok.2)) (star_of hok.1)) g3 g2 (star_of hok.1) (star_any (by simp [hok.2]))) fun _ _ _ h => e_isi h
            · exact failE
          · exact failE
        · rename_i T q1 U q2 kk q3
          split
          · rename_i hTU
            simp only [Bool.and_eq_true] at hTU
            split
            · rename_i t u ht hu
              exact PEw (L2.pe_callB L2.call_isiT g1 (blt_free F (b := "isinstance") (by simp)) PyProof.Rows.boot_isinstance (L2.pa_cons (O.e X C F a) (L2.pa_cons (L2.pe_tup (L2.pa_cons (ty_of F ht hTU.1) (L2.pa_cons (ty_of F hu hTU.2) L2.pa_nil (star_of rfl)) (star_of rfl))) L2.pa_nil (star_of hok.2)) (star_of hok.1)) g3 g2 (star_of hok.1) (star_any (by simp [hok.2]))) fun _ _ _ h => e_isiT h
            · exact failE
          · exact failE
        · exact failE
      · split
        · rename_i e; subst e
          exact PEw (pe_blt PyProof.Rows.boot_min (cr_min F.calm F.w.un) (blt_free F (b := "min") (by simp)) (.inl ⟨_, rfl⟩) g1 g2 g3 okl (pa_of O F okl)) fun _ _ _ h => e_bV h
        · split
          · rename_i e; subst e
            exact PEw (pe_blt PyProof.Rows.boot_max (cr_max F.calm F.w.un) (blt_free F (b := "max") (by simp)) (.inl ⟨_, rfl⟩) g1 g2 g3 okl (pa_of O F okl)) fun _ _ _ h => e_bV h
          · exact failE
  · exact failE
end
end Ev
set_option Elab.async false
set_option linter.all false
set_option maxRecDepth 100000
set_option maxHeartbeats 1000000
/-! .. calls, what is walked, comprehensions, all values, tests. -/
namespace Ev
open PySem PySem.Spec PyProof.Rows PySem.Calls
open L2 (V HO Hp SqL SqT Same upd upd_same upd_ne Cx PE PT PA PI PG PS PSs PW PO PGs PTs Ends It Inv RelV Vals VK Gl TI XK Sp CXT FnOk Room Binds Passes Meth Cls Mk CX0 E0 FnScope OpR CallR IxR PlainIx)

section
variable {X : Cx} {ct : Str → Option Addr} {G : Gt} {C : Cn} {S : Sm}
theorem failA {e : Expr} : PE X e (TVf X.K ct (aV nil1)) := ⟨fun _ _ _ _ _ _ ⟨_, _, _, _, _, _, h, _⟩ => by simp [aV, nil1] at h⟩
theorem pv_of (O : SOk ct G S) (F : Fac X ct G C) (e : Expr) : PE X e (TVf X.K ct (aV (S.e C e))) := PEw (O.e X C F e) fun _ _ _ h => v_val h
theorem arg_of (O : SOk ct G S) (F : Fac X ct G C) (b : Bool) (e : Expr) : PE X e (TVf X.K ct (argA S C b e)) := by
  unfold argA
  split
  · rename_i x p
    split
    · rename_i i hi
      obtain ⟨h1, h2, h3, h4⟩ := rd_of F hi
      exact PEw (L2.pe_var h1 h2 h3 h4) fun _ _ _ h => v_lend h
    · exact failA
  · exact pv_of O F e
theorem args_of (O : SOk ct G S) (F : Fac X ct G C) (mu : List Nat) : ∀ {es : List Expr} (j : Nat), es.all okX = true → PA X es (TVs X.K ct (argAs S C mu j es))
  | [], j, _ => PAw L2.pa_nil fun _ _ _ h => vs_nil h
  | e :: es, j, h => by
    simp only [List.all_cons, Bool.and_eq_true] at h
    exact PAw (L2.pa_cons (arg_of O F _ e) (args_of O F mu (j + 1) h.2) (star_of h.1)) fun _ _ _ q => vs_cons q
theorem args_len {mu : List Nat} : ∀ {es : List Expr} {j : Nat}, (argAs S C mu j es).length = es.length
  | [], _ => rfl
  | e :: es, j => by simp [argAs, args_len (es := es)]
theorem argv_of (O : SOk ct G S) (F : Fac X ct G C) : ∀ {es : List Expr}, es.all okX = true → PA X es (TVs X.K ct (es.map fun e => aV (S.e C e)))
  | [], _ => PAw L2.pa_nil fun _ _ _ h => vs_nil h
  | e :: es, h => by
    simp only [List.all_cons, Bool.and_eq_true] at h
    exact PAw (L2.pa_cons (pv_of O F e) (argv_of O F h.2) (star_of h.1)) fun _ _ _ q => vs_cons q
theorem ok_fn (O : SOk ct G S) (F : Fac X ct G C) {x : Str} {i : FnI} {es : List Expr} {p pos : Pos} (hg : glob C x = true) (hi : G.fns x = some i) : PE X (.Call (.Name x p) es [] pos) (TEf X.K ct (callE S C i es)) := by
  obtain ⟨g1, g2, g3⟩ := gl_of F hg
  obtain ⟨k, f, fd, ps, hm, hk, hF, hr, hl, hb⟩ := F.w.fns x i hi
  unfold callE
  split
  · rename_i hc
    simp only [Bool.and_eq_true, decide_eq_true_eq] at hc
    obtain ⟨ds, hv, hbd⟩ := hb es.length hc.2
    cases es with
    | nil =>
      exact PEw (L2.pe_call0 hF hr g1 hm hk hbd hv L2.pass0 g2) fun _ _ _ h => vs_nil (e_call (by simpa [argAs] using hc.2) h)
    | cons e es =>
      have hc1 := hc.1
      simp only [List.all_cons, Bool.and_eq_true] at hc1
      exact PEw (L2.pe_call hF hr g1 hm hk hbd hv L2.pass0 (args_of O F i.mu 0 hc.1) g2 (star_of hc1.1) (star_any hc1.2)) fun _ _ _ h => e_call (by rw [args_len]; exact hc.2) h
  · exact failE
theorem ok_mk (O : SOk ct G S) (F : Fac X ct G C) {x : Str} {i : FnI} {es : List Expr} {p pos : Pos} (hg : glob C x = true) (hi : G.mks x = some i) : PE X (.Call (.Name x p) es [] pos) (TEf X.K ct (makeE S C x i es)) := by
  obtain ⟨g1, g2, g3⟩ := gl_of F hg
  obtain ⟨k, Cl, f, fd, ps, hm, hct, hcl, hmk, hF, hr, hl, hb⟩ := F.w.mks x i hi
  unfold makeE
  split
  · rename_i hc
    simp only [Bool.and_eq_true, decide_eq_true_eq] at hc
    obtain ⟨⟨hc1, hc2⟩, hc3⟩ := hc
    obtain ⟨ds, hv, hbd⟩ := hb (es.length + 1) hc3
    rw [hc2, ← hc3] at hF
    cases es with
    | nil =>
      exact PEw (L2.pe_make0 hmk hF hr g1 hm hbd hv L2.pass0 g2) fun _ _ _ h => vs_nil (e_make (as := []) hct hcl h)
    | cons e es =>
      have hc4 := hc1
      simp only [List.all_cons, Bool.and_eq_true] at hc4
      refine PEw (L2.pe_make hmk hF hr g1 hm hbd hv L2.pass0 (argv_of O F hc1) g2 (star_of hc4.1) (star_any hc4.2)) fun _ _ _ h => ?_
      have := e_make (as := (e :: es).map fun e => aV (S.e C e)) (E := E0) hct hcl h
      rw [List.length_map] at this
      exact this
  · exact failE
theorem form_of {o : Expr} {m : Str} {apos pos : Pos} {es : List Expr} {env : PySem.Env} (hb : okB o = true) (hes : es.all okX = true) (hl : (apos.endLine == pos.line) = true) (hn : es.length < 20) :
    eval (.Call (.Attribute o m apos) es [] pos) env = (do
      let ov ← eval o env
      standAt apos.atName
      let (f, first) ← holding [ov] (getMethod ov m (do return (← importBound o env).getD true))
      callWith pos f first (backTo pos (starEach es env)) (backToKw pos (keywordEach [] env))) := by
  have few : methodCallForm (es.length + ([] : List Keyword).length) (backTo pos (starEach es env)) (backToKw pos (keywordEach [] env)) = true := by
    unfold methodCallForm
    have h1 : (backTo pos (starEach es env)).all (fun x => !x.1) = true := by
      have := star_any (pos := pos) (env := env) hes
      rw [List.all_eq_not_any_not]
      simpa using this
    rw [h1]
    simp [keywordEach, backToKw]
    omega
  rw [arm_eval_Call, base_of hb]
  unfold methodCall calleeOf methodCallPos
  rw [few, hl]
  simp only [Bool.not_true, Bool.false_or, if_true, pure_bind]
theorem meth_cand (F : Fac X ct G C) {m : Str} {n : Nat} : ∀ c t Cl, G.meth m n c = some t → ct c = some Cl → Cand X CX0 m Cl (spR X.K ct t.r t.mu (n + 1 + t.dn.length)) (t.dn.map V.int) := by
  intro c t Cl h hC
  unfold Gt.meth at h
  split at h
  · rename_i i hi
    split at h
    · rename_i hn
      cases h
      obtain ⟨k, f, fd, ps, hm, hF, hr, hl, hb⟩ := F.w.mts m c i Cl hi hC
      obtain ⟨ds, hv, hbd⟩ := hb (n + 1) hn
      simp only
      rw [hn]
      exact ⟨k, f, fd, ps, ds, hm, hF, hr, hbd, hv⟩
    · cases h
  · cases h
theorem ok_mod (O : SOk ct G S) (F : Fac X ct G C) {x : Str} {b : String} {es : List Expr} {p pos : Pos} (hg : glob C x = true) (hb : G.bl x = some b) : PE X (.Call (.Name x p) es [] pos) (TEf X.K ct (blE S C b es)) := by
  unfold blE
  cases es with
  | nil => exact failE
  | cons e r =>
    simp only
    split
    · rename_i hok
      split
      · rename_i g hgf
        have hm := F.w.bl x b hb
        obtain ⟨g1, g2, g3⟩ := gl_of F hg
        have hc : CallR X (.builtin b) (rFn X.K ct g) := by
          unfold blF at hgf
          split at hgf
          · rename_i e1; subst e1; cases hgf; exact cr_gcd2
          · split at hgf
            · rename_i e1; subst e1; cases hgf; exact cr_comb2
            · cases hgf
        simp only [List.all_cons, Bool.and_eq_true] at hok
        exact PEw (L2.pe_callBfun hc g1 hm (pa_of O F (by simp [hok.1, hok.2])) g2 (star_of hok.1) (star_any hok.2)) fun _ _ _ h => e_bV h
      · exact failE
    · exact failE
theorem ok_call (O : SOk ct G S) (F : Fac X ct G C) (f : Expr) (es : List Expr) (pos : Pos) : PE X (.Call f es [] pos) (TEf X.K ct (stCall G S C f es pos)) := by
  unfold stCall
  split
  · rename_i x p
    split
    · rename_i hg
      split
      · rename_i i hi
        exact ok_fn O F hg hi
      · split
        · rename_i i hi
          exact ok_mk O F hg hi
        · split
          · rename_i b hb
            exact ok_mod O F hg hb
          · split
            · exact ok_blt O F hg
            · exact failE
    · exact failE
  · rename_i o m apos
    split
    · rename_i hc
      simp only [Bool.and_eq_true, decide_eq_true_eq] at hc
      obtain ⟨⟨⟨⟨h1, h2⟩, h3⟩, h4⟩, h5⟩ := hc
      split
      · rename_i hm
        split
        · rename_i a
          have ha : okX a = true := by simpa using h3
          have hmm : (if m = ("index" : Str) then "index" else "count") = "index" ∨ (if m = ("index" : Str) then "index" else "count") = "count" := by split <;> simp
          have hme : m = Str.ofString (if m = ("index" : Str) then "index" else "count") := by
            split
            · assumption
            · rename_i z
              exact hm.resolve_left z
          have gen : ∀ mm : String, (mm = "index" ∨ mm = "count") → m = Str.ofString mm → PE X (.Call (.Attribute o m apos) [a] [] pos) (TEf X.K ct (if isPath C o && isP C a then mK mm (S.k C o) [S.p C a] else mV mm (S.e C o) [S.e C a])) := by
            intro mm hm2 he2
            subst he2
            split
            · exact PEw (pe_mth hm2 F.w.un (O.k X C F o) (pq_of O F ha) (base_of h1) h4 (star_one ha)) fun _ _ _ h => e_mK h
            · exact PEw (pe_mth hm2 F.w.un (O.e X C F o) (pa_of O F h3) (base_of h1) h4 (star_one ha)) fun _ _ _ h => e_mV h
          exact gen _ hmm hme
        · exact failE
      · cases es with
        | nil =>
          refine PEw (pe_methU0 (CX := CX0) (E := E0) (arg_of O F true o) L2.pass0 (form_of h1 h3 h4 h5)) fun σ H Q h => ?_
          obtain ⟨B, F', τ, st, av, e', ha, q⟩ := e_meth (CX := CX0) (E := E0) (as := []) (meth_cand F) h
          exact ⟨B, F', τ, st, av, e', ha, fun v H' B' am τ' a => by
            obtain ⟨Cl, p, dx, fs, sp, dvs, z1, z2, z3, z4, z5, z6⟩ := q v H' B' am τ' a
            exact ⟨Cl, p, dx, fs, sp, dvs, z1, z2, z3, z4, z5, vs_nil z6⟩⟩
        | cons e es =>
          have h6 := h3
          simp only [List.all_cons, Bool.and_eq_true] at h6
          refine PEw (pe_methU (CX := CX0) (E := E0) (arg_of O F true o) L2.pass0 (argv_of O F h3) (star_of h6.1) (star_any h6.2) (form_of h1 h3 h4 h5)) fun σ H Q h => ?_
          refine e_meth (CX := CX0) (E := E0) (as := (e :: es).map fun e => aV (S.e C e)) ?_ h
          rw [List.length_map]
          exact meth_cand F
    · exact failE
  · exact failE

/-! ### targets, what is walked -/
mutual
theorem ok_g (F : Fac X ct G C) : ∀ {tg : Expr} {g : Tg}, stG C tg = some g → PG X tg (TGf X.K ct (isTup tg) g)
  | .Name x p, g, h => by
    simp only [stG] at h
    split at h
    · rename_i i hi
      cases h
      obtain ⟨h1, h2, h3⟩ := wr_of F hi
      exact ⟨fun pins s σ H v u Q I r q => (L2.pg_name F.nd h1 h2 h3).run pins s σ H v u Q I r (g_name q)⟩
    · cases h
  | .Tuple es k p, g, h => by
    simp only [stG] at h
    split at h
    · rename_i gs hgs
      cases h
      obtain ⟨a1, a2, a3⟩ := ok_gs F hgs
      exact ⟨fun pins s σ H v u Q I r q => (L2.pg_tup F.calm a1 a2 a3).run pins s σ H v u Q I r (g_tup q)⟩
    · cases h
  | .BoolOp .., _, h => by simp [stG] at h
  | .NamedExpr .., _, h => by simp [stG] at h
  | .BinOp .., _, h => by simp [stG] at h
  | .UnaryOp .., _, h => by simp [stG] at h
  | .Lambda .., _, h => by simp [stG] at h
  | .IfExp .., _, h => by simp [stG] at h
  | .Dict .., _, h => by simp [stG] at h
  | .Set .., _, h => by simp [stG] at h
  | .ListComp .., _, h => by simp [stG] at h
  | .SetComp .., _, h => by simp [stG] at h
  | .DictComp .., _, h => by simp [stG] at h
  | .GeneratorExp .., _, h => by simp [stG] at h
  | .Await .., _, h => by simp [stG] at h
  | .Yield .., _, h => by simp [stG] at h
  | .YieldFrom .., _, h => by simp [stG] at h
  | .Compare .., _, h => by simp [stG] at h
  | .Call .., _, h => by simp [stG] at h
  | .FormattedValue .., _, h => by simp [stG] at h
  | .JoinedStr .., _, h => by simp [stG] at h
  | .Constant .., _, h => by simp [stG] at h
  | .Attribute .., _, h => by simp [stG] at h
  | .Subscript .., _, h => by simp [stG] at h
  | .Starred .., _, h => by simp [stG] at h
  | .List .., _, h => by simp [stG] at h
  | .Slice .., _, h => by simp [stG] at h
theorem ok_gs (F : Fac X ct G C) : ∀ {es : List Expr} {gs : List Tg}, stGs C es = some gs → PGs X es (TGsf X.K ct gs) ∧ (assignEach es X.env).length = gs.length ∧ (assignEach es X.env).findIdx? (·.1) = none
  | [], gs, h => by
    simp only [stGs, Option.some.injEq] at h
    subst h
    exact ⟨⟨fun pins s σ H vs us Q I r q => L2.pgs_nil.run pins s σ H vs us Q I r (gs_nil q)⟩, rfl, rfl⟩
  | e :: es, gs, h => by
    simp only [stGs] at h
    split at h
    · rename_i g hg
      split at h
      · rename_i gr hgr
        cases h
        obtain ⟨a1, a2, a3⟩ := ok_gs F hgr
        have a0 := ok_g F hg
        have he : assignEach (e :: es) X.env = (false, assign e X.env) :: assignEach es X.env := by
          cases e <;> first | rfl | (simp [stG] at hg)
        refine ⟨⟨fun pins s σ H vs us Q I r q => (L2.pgs_cons a0 a1 (by rw [he]; rfl)).run pins s σ H vs us Q I r ?_⟩, by rw [he]; simp [a2], by rw [he, List.findIdx?_cons, a3]; rfl⟩
        obtain ⟨v, r', e1, q'⟩ := gs_cons q
        exact ⟨v, r', e1, g_weak q'⟩
      · cases h
    · cases h
end
end
end Ev
set_option Elab.async false
set_option linter.all false
set_option maxRecDepth 100000
set_option maxHeartbeats 1000000
/-! .. what is walked, comprehensions, all values, tests. -/
namespace Ev
open PySem PySem.Spec PyProof.Rows PySem.Calls
open L2 (V HO Hp SqL SqT Same upd upd_same upd_ne Cx PE PT PA PI PG PS PSs PW PO PGs PTs Ends It Inv RelV Vals VK Gl TI XK Sp CXT FnOk Room Binds Passes Meth Cls Mk CX0 E0 FnScope OpR CallR IxR PlainIx)

section
variable {X : Cx} {ct : Str → Option Addr} {G : Gt} {C : Cn} {S : Sm}
theorem PIw {tg e : Expr} {t t' : TI} (h : PI X tg e t) (w : ∀ σ H R, t' σ H R → t σ H R) : PI X tg e t' := ⟨fun pins s σ H R I q => h.run pins s σ H R I (w _ _ _ q)⟩
theorem rev_get {xs : List D} {vs : List V} {K : PySem.W.Frag} {B : Hp} (r : RepDs K ct B xs vs) {i : Nat} (hi : i < xs.reverse.length) : ∃ v d, vs[vs.length - 1 - i]? = some v ∧ xs.reverse[i]? = some d ∧ RepD K ct B d v := by
  rw [List.length_reverse] at hi
  have hl := r.length
  obtain ⟨v, h1, h2, h3⟩ := get_of r (i := xs.length - 1 - i) (by omega)
  refine ⟨v, _, by rw [← hl]; exact h1, ?_, h3⟩
  rw [List.getElem?_reverse hi]
  exact h2
theorem w_revL {K : PySem.W.Frag} {B : Hp} {pl : Bool} {xs : List D} {vs : List V} {a : Addr} (r : RepDs K ct B xs vs) (h : SqL K B a vs) : WalkD K ct pl B xs.reverse (L2.Itv K a vs.length) where
  goes := fun i H hi sb => by
    obtain ⟨v, d, h1, _⟩ := rev_get r hi
    have hl := r.length
    rw [List.length_reverse] at hi
    exact ⟨by omega, vs, v, sb.seq h, h1⟩
  stops := fun H sb => by
    show vs.length ≤ _
    rw [List.length_reverse, r.length]
    exact Nat.le_refl _
  yields := fun i H v H' cs B1 hi sb w y => by
    obtain ⟨rfl, y⟩ := y
    obtain ⟨u, d, h1, h2, h3⟩ := rev_get r hi
    have z := y vs ((sb.trans w.sub).seq h)
    rw [h1] at z; cases z
    exact ⟨B1, w, Same.refl _, _, h2, .inl (h3.mono sb)⟩
theorem w_revT {K : PySem.W.Frag} {B : Hp} {pl : Bool} {xs : List D} {vs : List V} {a : Addr} (r : RepDs K ct B xs vs) (h : SqT K B a vs) : WalkD K ct pl B xs.reverse (RT.ItvT K a vs.length) where
  goes := fun i H hi sb => by
    obtain ⟨v, d, h1, _⟩ := rev_get r hi
    have hl := r.length
    rw [List.length_reverse] at hi
    exact ⟨by omega, vs, v, sq_tup sb h, h1⟩
  stops := fun H sb => by
    show vs.length ≤ _
    rw [List.length_reverse, r.length]
    exact Nat.le_refl _
  yields := fun i H v H' cs B1 hi sb w y => by
    obtain ⟨rfl, y⟩ := y
    obtain ⟨u, d, h1, h2, h3⟩ := rev_get r hi
    have z := y vs (sq_tup (sb.trans w.sub) h)
    rw [h1] at z; cases z
    exact ⟨B1, w, Same.refl _, _, h2, .inl (h3.mono sb)⟩
theorem i_rev {K : PySem.W.Frag} {pl : Bool} {σ : L2.St} {H : Hp} {c : SE} {R : It → Hp → Prop} (h : TIf K ct pl (iRev c) σ H R) : RT.iRevA K (TEf K ct c) σ H R := by
  obtain ⟨B, F, τ, st, xs, e', e, q⟩ := h
  unfold iRev at e
  split at e
  · rename_i m e1 hf
    split at e
    · rename_i ys hd
      cases e
      refine e_one st hf fun v H1 B1 τ1 st1 sb1 ee rv => ?_
      obtain ⟨a, vs, rfl, r, hs⟩ := rd_seq rv hd
      refine ⟨a, vs, rfl, ?_⟩
      rcases hs with hs | hs
      · exact .inl ⟨st1.wf.sub.seq hs, q _ H1 B1 τ1 ⟨st1, sb1, ee⟩ (w_revL r hs)⟩
      · exact .inr ⟨sq_tup st1.wf.sub hs, q _ H1 B1 τ1 ⟨st1, sb1, ee⟩ (w_revT r hs)⟩
    · cases e
  · cases e
theorem zip_get {xs ys : List D} (hl : xs.length = ys.length) {i : Nat} (hi : i < (zipD xs ys).length) : ∃ h1 : i < xs.length, ∃ h2 : i < ys.length, (zipD xs ys)[i]? = some (.tup [xs[i], ys[i]]) := by
  have hz : (zipD xs ys).length = xs.length := by simp [zipD, hl]
  rw [hz] at hi
  refine ⟨hi, by omega, ?_⟩
  unfold zipD
  rw [List.getElem?_map, (List.getElem?_zip_eq_some (z := (xs[i], ys[i]'(by omega)))).mpr ⟨List.getElem?_eq_getElem hi, List.getElem?_eq_getElem (by omega)⟩]
  rfl
theorem w_zipL {K : PySem.W.Frag} {B : Hp} {xs ys : List D} {vs us : List V} {a b : Addr} (hl : xs.length = ys.length) (r : RepDs K ct B xs vs) (r2 : RepDs K ct B ys us) (h : SqL K B a vs) (h2 : SqL K B b us) : WalkD K ct true B (zipD xs ys) (L2.Itz K a b) where
  goes := fun i H hi sb => by
    obtain ⟨i1, i2, _⟩ := zip_get hl hi
    obtain ⟨v, k1, _⟩ := get_of r i1
    obtain ⟨u, k2, _⟩ := get_of r2 i2
    exact ⟨vs, us, v, u, sb.seq h, sb.seq h2, k1, k2⟩
  stops := fun H sb => ⟨vs, us, sb.seq h, sb.seq h2, .inl (by rw [← r.length]; simp [zipD, hl])⟩
  yields := fun i H v H' cs B1 hi sb w y => by
    obtain ⟨i1, i2, hz⟩ := zip_get hl hi
    obtain ⟨v', k1, _, m1⟩ := get_of r i1
    obtain ⟨u', k2, _, m2⟩ := get_of r2 i2
    obtain ⟨T, x, y', rfl, hT, rfl, y1, y2⟩ := y
    have z1 := y1 vs ((sb.trans w.sub).seq h)
    have z2 := y2 us ((sb.trans w.sub).seq h2)
    rw [k1] at z1; cases z1
    rw [k2] at z2; cases z2
    obtain ⟨B2, w2, sb2, ry⟩ := pair_new w hT (m1.mono sb) (m2.mono sb)
    exact ⟨B2, w2, sb2, _, hz, ry⟩
theorem w_zipT {K : PySem.W.Frag} {B : Hp} {xs ys : List D} {vs us : List V} {a b : Addr} (hl : xs.length = ys.length) (r : RepDs K ct B xs vs) (r2 : RepDs K ct B ys us) (h : SqT K B a vs) (h2 : SqT K B b us) : WalkD K ct true B (zipD xs ys) (RZ.ItzT K a b) where
  goes := fun i H hi sb => by
    obtain ⟨i1, i2, _⟩ := zip_get hl hi
    obtain ⟨v, k1, _⟩ := get_of r i1
    obtain ⟨u, k2, _⟩ := get_of r2 i2
    exact ⟨vs, us, v, u, sq_tup sb h, sq_tup sb h2, k1, k2⟩
  stops := fun H sb => ⟨vs, us, sq_tup sb h, sq_tup sb h2, .inl (by rw [← r.length]; simp [zipD, hl])⟩
  yields := fun i H v H' cs B1 hi sb w y => by
    obtain ⟨i1, i2, hz⟩ := zip_get hl hi
    obtain ⟨v', k1, _, m1⟩ := get_of r i1
    obtain ⟨u', k2, _, m2⟩ := get_of r2 i2
    obtain ⟨T, x, y', rfl, hT, rfl, y1, y2⟩ := y
    have z1 := y1 vs (sq_tup (sb.trans w.sub) h)
    have z2 := y2 us (sq_tup (sb.trans w.sub) h2)
    rw [k1] at z1; cases z1
    rw [k2] at z2; cases z2
    obtain ⟨B2, w2, sb2, ry⟩ := pair_new w hT (m1.mono sb) (m2.mono sb)
    exact ⟨B2, w2, sb2, _, hz, ry⟩
theorem i_zip {K : PySem.W.Frag} {σ : L2.St} {H : Hp} {c d : SE} {R : It → Hp → Prop} (h : TIf K ct true (iZip c d) σ H R) : RZ.iZipA K (L2.tCons (TEf K ct c) (L2.tCons (TEf K ct d) L2.tNil)) σ H R := by
  obtain ⟨B, F, τ, st, xs, e', e, q⟩ := h
  unfold iZip at e
  split at e
  · rename_i x e1 hx
    split at e
    · rename_i y e2 hy
      split at e
      · rename_i ys hz
        cases e
        refine e_one (Q := fun v H1 => L2.tCons (TEf K ct d) L2.tNil σ H1 fun vs H2 => _) st hx fun v H1 B1 τ1 st1 sb1 ee1 rv => ?_
        refine e_one (Q := fun u H2 => L2.tNil σ H2 fun vs H3 => _) st1 (by rw [ee1]; exact hy) fun u H2 B2 τ2 st2 sb2 ee2 ru => ?_
        have rv := rv.mono sb2
        unfold zipOk at hz
        split at hz
        · rename_i as bs ha hb
          split at hz
          · rename_i hl
            cases hz
            rw [ha] at rv
            rw [hb] at ru
            obtain ⟨a, vs, rfl, r1, hs1⟩ := rd_seq rv rfl
            obtain ⟨b, us, rfl, r2, hs2⟩ := rd_seq ru rfl
            unfold RepD at rv ru
            obtain ⟨a', vs', z, hB1, r1'⟩ := rv
            cases z
            obtain ⟨b', us', z, hB2, r2'⟩ := ru
            cases z
            exact ⟨a, b, vs', us', rfl, .inl ⟨st2.wf.sub.seq (SqL.of hB1), st2.wf.sub.seq (SqL.of hB2), q _ H2 B2 τ2 ⟨st2, sb1.trans sb2, ee2⟩ (w_zipL hl r1' r2' (SqL.of hB1) (SqL.of hB2))⟩⟩
          · cases hz
        · rename_i as bs ha hb
          split at hz
          · rename_i hl
            cases hz
            rw [ha] at rv
            rw [hb] at ru
            unfold RepD at rv ru
            obtain ⟨a', vs', rfl, hB1, r1'⟩ := rv
            obtain ⟨b', us', rfl, hB2, r2'⟩ := ru
            exact ⟨a', b', vs', us', rfl, .inr ⟨sq_tup st2.wf.sub hB1.sq, sq_tup st2.wf.sub hB2.sq, q _ H2 B2 τ2 ⟨st2, sb1.trans sb2, ee2⟩ (w_zipT hl r1' r2' hB1.sq hB2.sq)⟩⟩
          · cases hz
        · cases hz
      · cases e
    · cases e
  · cases e
theorem ok_i (O : SOk ct G S) (F : Fac X ct G C) {tg e : Expr} {f : SI} (h : stI S C (isTup tg) e = some f) : PI X tg e (TIf X.K ct (isTup tg) f) ∧ ∀ x, foldedSetIterable e X.env x = pure x := by
  unfold stI at h
  split at h
  · cases h
  · rename_i hok
    have hok : okX e = true := by simpa using hok
    refine ⟨?_, fold_of hok⟩
    split at h
    · rename_i es hes
      split at h
      · rename_i hc
        cases h
        simp only [Bool.and_eq_true, Bool.or_eq_true, decide_eq_true_eq] at hc
        obtain ⟨⟨h1, h2⟩, h3⟩ := hc
        obtain ⟨p, pos, rfl⟩ := nm_of hes
        obtain ⟨q1, q2, q3⟩ := gl_of F h1
        match es, h2, h3 with
        | [x], h2, _ =>
          simp only [List.all_cons, List.all_nil, Bool.and_true] at h2
          exact PIw (L2.pi_range1 q1 (blt_free F (b := "range") (by simp)) (L2.pa_cons (O.e X C F x) L2.pa_nil (star_of h2)) (star_one h2)) fun _ _ _ h => i_rng1 h
        | [x, y], h2, _ =>
          simp only [List.all_cons, List.all_nil, Bool.and_true, Bool.and_eq_true] at h2
          exact PIw (L2.pi_range2 q1 (blt_free F (b := "range") (by simp)) (L2.pa_cons (O.e X C F x) (L2.pa_cons (O.e X C F y) L2.pa_nil (star_of h2.2)) (star_of h2.1)) (by rw [star_of h2.1, star_one h2.2]) (star_one h2.2)) fun _ _ _ h => i_rng2 h
        | [], _, h3 => simp at h3
        | _ :: _ :: _ :: _, _, h3 => simp at h3
      · split at h
        · rename_i hc
          cases h
          simp only [Bool.and_eq_true, decide_eq_true_eq] at hc
          obtain ⟨⟨h1, h2⟩, h3⟩ := hc
          obtain ⟨p, pos, rfl⟩ := nm_of hes
          obtain ⟨q1, q2, q3⟩ := gl_of F h1
          match es, h2, h3 with
          | [x, y, z], h2, _ =>
            simp only [List.all_cons, List.all_nil, Bool.and_true, Bool.and_eq_true] at h2
            exact PIw (L2.pi_range3 q1 (blt_free F (b := "range") (by simp)) (L2.pa_cons (O.e X C F x) (L2.pa_cons (O.e X C F y) (L2.pa_cons (O.e X C F z) L2.pa_nil (star_of h2.2.2)) (star_of h2.2.1)) (star_of h2.1)) (star_of h2.1) (star_any (es := [y, z]) (by simp [h2.2.1, h2.2.2]))) fun _ _ _ h => i_rng3 h
          | [], _, h3 => simp at h3
          | [_], _, h3 => simp at h3
          | [_, _], _, h3 => simp at h3
          | _ :: _ :: _ :: _ :: _, _, h3 => simp at h3
        · cases h
    · split at h
      · rename_i es hes
        split at h
        · rename_i a
          split at h
          · rename_i hc
            cases h
            simp only [Bool.and_eq_true] at hc
            obtain ⟨⟨h1, h2⟩, h3⟩ := hc
            obtain ⟨p, pos, rfl⟩ := nm_of hes
            obtain ⟨q1, q2, q3⟩ := gl_of F h1
            rw [h3]
            cases tg with
            | Tuple ts k tp => exact PIw (pi_en q1 (blt_free F (b := "enumerate") (by simp)) (O.e X C F a) (star_of h2)) fun _ _ _ h => i_enum h
            | _ => simp [isTup] at h3
          · cases h
        · cases h
      · split at h
        · rename_i es hes
          split at h
          · rename_i a
            split at h
            · rename_i hc
              cases h
              simp only [Bool.and_eq_true] at hc
              obtain ⟨h1, h2⟩ := hc
              obtain ⟨p, pos, rfl⟩ := nm_of hes
              obtain ⟨q1, q2, q3⟩ := gl_of F h1
              exact PIw (RT.pi_revA q1 (blt_free F (b := "reversed") (by simp)) (O.e X C F a) (star_of h2)) fun _ _ _ h => i_rev h
            · cases h
          · cases h
        · split at h
          · rename_i es hes
            split at h
            · rename_i a b
              split at h
              · rename_i hc
                cases h
                simp only [Bool.and_eq_true] at hc
                obtain ⟨⟨⟨h1, h2⟩, h3⟩, h4⟩ := hc
                obtain ⟨p, pos, rfl⟩ := nm_of hes
                obtain ⟨q1, q2, q3⟩ := gl_of F h1
                rw [h4]
                cases tg with
                | Tuple ts k tp => exact PIw (RZ.pi_zipA q1 (blt_free F (b := "zip") (by simp)) (L2.pa_cons (O.e X C F a) (L2.pa_cons (O.e X C F b) L2.pa_nil (star_of h3)) (star_of h2)) (star_of h2) (star_any (es := [b]) (by simp [h3]))) fun _ _ _ h => i_zip h
                | _ => simp [isTup] at h4
              · cases h
            · cases h
          · cases h
            exact PIw (pi_seq (O.e X C F e)) fun _ _ _ h => i_v h
end
end Ev
set_option Elab.async false
set_option linter.all false
set_option maxRecDepth 100000
set_option maxHeartbeats 1000000
/-! .. comprehensions, all values, tests. -/
namespace Ev
open PySem PySem.Spec PyProof.Rows PySem.Calls
open L2 (V HO Hp SqL SqT Same upd upd_same upd_ne Cx PE PT PA PI PG PS PSs PW PO PGs PTs Ends It Inv RelV Vals VK Gl TI XK Sp CXT FnOk Room Binds Passes Meth Cls Mk CX0 E0 FnScope OpR CallR IxR PlainIx)

section
variable {X : Cx} {ct : Str → Option Addr} {G : Gt} {C : Cn} {S : Sm}
theorem fac_blk (F : Fac X ct G C) {scope : Scope} (hk : scope.kind = .function) (s : Shared) (H : Hp) (c : Addr) (cl : List (Str × Addr)) (fp : List Addr) : Fac (X.blk s H scope (compEnvC scope cl c X.env) fp) ct G (C.blk scope) where
  N := F.N
  sc := by
    show L2.relS scope X.env.scope = L2.relS scope C.sc
    rw [F.sc]
  fn := rfl
  calm := F.calm
  nd := F.nd
  nox := rfl
  kind := hk
  w := F.w
/-- what a comprehension's proof needs -/
structure CompOk (X : Cx) (ct : Str → Option Addr) (elt tg iter : Expr) (ifs : List Expr) (scope : Scope) (f : SE) : Prop where
  ex : ∃ (own : List (Str × Nat)) (it : SI) (g : Tg) (t : ST) (c : SE), f = cComp (own.map (·.2)) it g t c ∧ PI X tg iter (TIf X.K ct (isTup tg) it) ∧ L2.BlkOk X.N X.env.scope scope own ∧ (∀ x, foldedSetIterable iter X.env x = pure x) ∧
    (∀ (s : Shared) (H : Hp) (C : Addr) (cl : List (Str × Addr)) (fp : List Addr), PG (X.blk s H scope (compEnvC scope cl C X.env) fp) tg (TGf X.K ct (isTup tg) g)) ∧
    (∀ (s : Shared) (H : Hp) (C : Addr) (cl : List (Str × Addr)) (fp : List Addr), PTs (X.blk s H scope (compEnvC scope cl C X.env) fp) ifs (TTf X.K ct t)) ∧
    (∀ (s : Shared) (H : Hp) (C : Addr) (cl : List (Str × Addr)) (fp : List Addr), PE (X.blk s H scope (compEnvC scope cl C X.env) fp) elt (TEf X.K ct c))
theorem ok_ifs (O : SOk ct G S) (F : Fac X ct G C) {ifs : List Expr} {t : ST} (h : stIfs S C ifs = some t) : PTs X ifs (TTf X.K ct t) := by
  unfold stIfs at h
  split at h
  · cases h
    exact ⟨fun pins s0 σ H0 Q I q => L2.pts_nil.run pins s0 σ H0 Q I (t_yes q)⟩
  · cases h
    exact L2.pts_one (O.t _ _ F _)
  · cases h
/-- .. and of one with two generators -/
structure Comp2Ok (X : Cx) (ct : Str → Option Addr) (elt tg iter : Expr) (ifs : List Expr) (tg1 iter1 : Expr) (ifs1 : List Expr) (scope : Scope) (f : SE) : Prop where
  ex : ∃ (own : List (Str × Nat)) (vs1 : List Nat) (it : SI) (g : Tg) (t : ST) (it1 : SI) (g1 : Tg) (t1 : ST) (c : SE), f = cComp2 (own.map (·.2)) vs1 it g t it1 g1 t1 c ∧ PI X tg iter (TIf X.K ct (isTup tg) it) ∧ L2.BlkOk X.N X.env.scope scope own ∧ (∀ i ∈ vs1, i ∈ own.map (·.2)) ∧ (∀ x, foldedSetIterable iter X.env x = pure x) ∧ (∀ env x, foldedSetIterable iter1 env x = pure x) ∧
    (∀ (s : Shared) (H : Hp) (C : Addr) (cl : List (Str × Addr)) (fp : List Addr), PG (X.blk s H scope (compEnvC scope cl C X.env) fp) tg (TGf X.K ct (isTup tg) g)) ∧
    (∀ (s : Shared) (H : Hp) (C : Addr) (cl : List (Str × Addr)) (fp : List Addr), PTs (X.blk s H scope (compEnvC scope cl C X.env) fp) ifs (TTf X.K ct t)) ∧
    (∀ (s : Shared) (H : Hp) (C : Addr) (cl : List (Str × Addr)) (fp : List Addr), PI (X.blk s H scope (compEnvC scope cl C X.env) fp) tg1 iter1 (TIf X.K ct (isTup tg1) it1)) ∧
    (∀ (s : Shared) (H : Hp) (C : Addr) (cl : List (Str × Addr)) (fp : List Addr), PG (X.blk s H scope (compEnvC scope cl C X.env) fp) tg1 (TGf X.K ct (isTup tg1) g1)) ∧
    (∀ (s : Shared) (H : Hp) (C : Addr) (cl : List (Str × Addr)) (fp : List Addr), PTs (X.blk s H scope (compEnvC scope cl C X.env) fp) ifs1 (TTf X.K ct t1)) ∧
    (∀ (s : Shared) (H : Hp) (C : Addr) (cl : List (Str × Addr)) (fp : List Addr), PE (X.blk s H scope (compEnvC scope cl C X.env) fp) elt (TEf X.K ct c))
theorem comp2_of (O : SOk ct G S) (F : Fac X ct G C) (elt tg iter : Expr) (ifs : List Expr) (tg1 iter1 : Expr) (ifs1 : List Expr) (scope : Scope) : stComp2 S C elt tg iter ifs tg1 iter1 ifs1 scope = nil1 ∨ Comp2Ok X ct elt tg iter ifs tg1 iter1 ifs1 scope (stComp2 S C elt tg iter ifs tg1 iter1 ifs1 scope) := by
  unfold stComp2
  split
  · rename_i own hown
    split
    · rename_i hb
      have ok0 := L2.blkOk_by hb
      have ok : L2.BlkOk X.N X.env.scope scope own := by rw [F.N, F.sc]; exact ok0
      split
      · rename_i it g it1 g1 t t1 hit hg hit1 hg1 ht ht1
        split
        · rename_i hv
          obtain ⟨i1, i2⟩ := ok_i O F hit
          have okx : okX iter1 = true := by
            unfold stI at hit1
            split at hit1
            · cases hit1
            · rename_i h; simpa using h
          exact .inr ⟨own, g1.ns, it, g, t, it1, g1, t1, _, rfl, i1, ok, (fun i hi => by
            have := List.all_eq_true.mp hv i hi
            simpa using this), i2, (fun env x => fold_of okx x), fun s H c cl fp => ok_g (fac_blk F ok.kind s H c cl fp) hg, fun s H c cl fp => ok_ifs O (fac_blk F ok.kind s H c cl fp) ht, fun s H c cl fp => (ok_i O (fac_blk F ok.kind s H c cl fp) hit1).1, fun s H c cl fp => ok_g (fac_blk F ok.kind s H c cl fp) hg1, fun s H c cl fp => ok_ifs O (fac_blk F ok.kind s H c cl fp) ht1, fun s H c cl fp => O.e _ _ (fac_blk F ok.kind s H c cl fp) elt⟩
        · exact .inl rfl
      · exact .inl rfl
    · exact .inl rfl
  · exact .inl rfl
theorem comp_of (O : SOk ct G S) (F : Fac X ct G C) (elt : Expr) (gs : List Comprehension) (scope : Scope) : stComp S C elt gs scope = nil1 ∨ (∃ tg iter ifs, gs = [⟨tg, iter, ifs, 0⟩] ∧ CompOk X ct elt tg iter ifs scope (stComp S C elt gs scope)) ∨ ∃ tg iter ifs tg1 iter1 ifs1, gs = [⟨tg, iter, ifs, 0⟩, ⟨tg1, iter1, ifs1, 0⟩] ∧ Comp2Ok X ct elt tg iter ifs tg1 iter1 ifs1 scope (stComp S C elt gs scope) := by
  unfold stComp
  split
  · rename_i tg iter ifs
    split
    · rename_i own hown
      split
      · rename_i hb
        have ok0 := L2.blkOk_by hb
        have ok : L2.BlkOk X.N X.env.scope scope own := by rw [F.N, F.sc]; exact ok0
        split
        · rename_i it g hit hg
          obtain ⟨i1, i2⟩ := ok_i O F hit
          split
          · exact .inr (.inl ⟨tg, iter, [], rfl, ⟨own, it, g, tYes, _, rfl, i1, ok, i2, fun s H c cl fp => ok_g (fac_blk F ok.kind s H c cl fp) hg, fun s H c cl fp => ⟨fun pins s0 σ H0 Q I q => L2.pts_nil.run pins s0 σ H0 Q I (t_yes q)⟩, fun s H c cl fp => O.e _ _ (fac_blk F ok.kind s H c cl fp) elt⟩⟩)
          · rename_i cnd
            exact .inr (.inl ⟨tg, iter, [cnd], rfl, ⟨own, it, g, _, _, rfl, i1, ok, i2, fun s H c cl fp => ok_g (fac_blk F ok.kind s H c cl fp) hg, fun s H c cl fp => L2.pts_one (O.t _ _ (fac_blk F ok.kind s H c cl fp) cnd), fun s H c cl fp => O.e _ _ (fac_blk F ok.kind s H c cl fp) elt⟩⟩)
          · exact .inl rfl
        · exact .inl rfl
      · exact .inl rfl
    · exact .inl rfl
  · rename_i tg iter ifs tg1 iter1 ifs1
    rcases comp2_of O F elt tg iter ifs tg1 iter1 ifs1 scope with h | h
    · exact .inl h
    · exact .inr (.inr ⟨tg, iter, ifs, tg1, iter1, ifs1, rfl, h⟩)
  · exact .inl rfl
theorem ok_comp (O : SOk ct G S) (F : Fac X ct G C) (elt : Expr) (gs : List Comprehension) (scope : Scope) (pos : Pos) : PE X (.ListComp elt gs scope pos) (TEf X.K ct (stComp S C elt gs scope)) := by
  rcases comp_of O F elt gs scope with h | ⟨tg, iter, ifs, rfl, own, it, g, t, c, e, h1, h2, h3, h4, h5, h6⟩ | ⟨tg, iter, ifs, tg1, iter1, ifs1, rfl, own, vs1, it, g, t, it1, g1, t1, c, e, h1, h2, hv, h3, h3', h4, h5, k1, k2, k3, h6⟩
  · rw [h]; exact failE
  · rw [e]
    exact PEw (L2.pe_lc F.calm F.nd h1 h2 h4 h5 h6 h3) fun _ _ _ q => e_comp q
  · rw [e]
    exact PEw (L2.pe_lc2 F.calm F.nd h1 h2 hv h4 h5 k1 k2 k3 h6 h3 h3') fun _ _ _ q => e_comp2 q
theorem ok_and (O : SOk ct G S) (F : Fac X ct G C) (pos : Pos) : ∀ es : List Expr, PE X (.BoolOp .And es pos) (TEf X.K ct (andE (es.map (S.e C))))
  | [] => failE
  | [a] => L2.pe_one (O.e X C F a)
  | a :: b :: r => PEw (L2.pe_and (O.e X C F a) (ok_and O F pos (b :: r))) fun _ _ _ h => e_and h
theorem ok_or (O : SOk ct G S) (F : Fac X ct G C) (pos : Pos) : ∀ es : List Expr, PE X (.BoolOp .Or es pos) (TEf X.K ct (orE (es.map (S.e C))))
  | [] => failE
  | [a] => L2.pe_one (O.e X C F a)
  | a :: b :: r => PEw (L2.pe_or (O.e X C F a) (ok_or O F pos (b :: r))) fun _ _ _ h => e_or h
theorem ok_cmp (O : SOk ct G S) (F : Fac X ct G C) {a b : Expr} {op : CmpOp} {pos : Pos} (hb : okX b = true) : PE X (.Compare a [op] [b] pos) (TEf X.K ct (cCmp op (S.e C a) (S.e C b))) :=
  PEw (L2.pe_cmpR (opr_cmp op F.w.un) (O.e X C F a) (O.e X C F b) (mark_of hb)) fun _ _ _ h => e_cmp h
theorem po_of (O : SOk ct G S) (F : Fac X ct G C) (lo : Option Expr) : PO X lo (tOptI (K := X.K) (ct := ct) (lo.map (S.e C))) := by
  cases lo with
  | none => exact L2.po_none
  | some e => exact L2.po_some (O.e X C F e)
theorem ok_subE (O : SOk ct G S) (F : Fac X ct G C) (o i : Expr) (pos : Pos) : PE X (.Subscript o i pos) (TEf X.K ct (stE G S C (.Subscript o i pos))) := by
  have main : ∀ i : Expr, PE X (.Subscript o i pos) (TEf X.K ct (if okX i then (if isPath C o && isP C i then cK (S.k C (.Subscript o i pos)) else match o with
      | .Name x _ => (match rdSlot C x with | some j => cIxV j (S.e C i) | none => nil1)
      | o => cIx (S.e C o) (S.e C i)) else nil1)) := by
    intro i
    split
    · rename_i hok
      split
      · exact PEw (O.k X C F _) fun _ _ _ h => e_look h
      · split
        · rename_i x p
          split
          · rename_i j hj
            obtain ⟨h1, h2, h3, h4⟩ := rd_of F hj
            exact PEw (L2.pe_ix ixv (L2.pe_var h1 h2 h3 h4) (O.e X C F i) (plain_of hok)) fun _ _ _ h => e_ixv h
          · exact failE
        · exact PEw (L2.pe_ix ixr (O.e X C F o) (O.e X C F i) (plain_of hok)) fun _ _ _ h => e_ix h
    · exact failE
  cases i with
  | Slice lo hi st p =>
    cases st with
    | none =>
      simp only [stE]
      split
      · exact PEw (L2.pe_slice slr (O.e X C F o) (po_of O F lo) (po_of O F hi)) fun _ _ _ h => e_sl h
      · exact failE
    | some _ => exact failE
  | _ => exact main _
theorem ok_e (O : SOk ct G S) (F : Fac X ct G C) (e : Expr) : PE X e (TEf X.K ct (stE G S C e)) := by
  cases e with
  | Constant c j pos =>
    simp only [stE]
    split
    · rename_i d hd
      exact PEw (pe_con (ct := ct) hd) fun _ _ _ h => e_pure h
    · exact failE
  | Name x p => simp only [stE]; exact PEw (O.k X C F _) fun _ _ _ h => e_look h
  | Attribute o f p =>
    simp only [stE]
    split
    · rename_i hb
      split
      · exact PEw (O.k X C F _) fun _ _ _ h => e_look h
      · exact PEw (L2.pe_fld (O.e X C F o) (base_of hb)) fun _ _ _ h => e_fld h
    · exact failE
  | Subscript o i p => exact ok_subE O F o i p
  | BinOp a op b pos => simp only [stE]; exact PEw (L2.pe_op (opr_bin op) (O.e X C F a) (O.e X C F b)) fun _ _ _ h => e_bin h
  | UnaryOp op a pos =>
    cases op with
    | USub => simp only [stE]; exact PEw (L2.pe_un L2.un_neg (O.e X C F a)) fun _ _ _ h => e_neg h
    | Not => simp only [stE]; exact PEw (L2.pe_not (O.e X C F a)) fun _ _ _ h => e_not h
    | _ => exact failE
  | BoolOp op es pos =>
    cases op with
    | And => simp only [stE]; exact ok_and O F pos es
    | Or => simp only [stE]; exact ok_or O F pos es
  | Compare a ops bs pos =>
    unfold stE
    split
    all_goals first | exact failE | skip
    all_goals rename_i heq
    all_goals try cases heq
    split
    · rename_i hb
      unfold stCmp
      split
      · split
        · exact PEw (L2.pe_cmpR (opr_in false F.w.un) (O.p X C F _) (O.k X C F _) (mark_of hb)) fun _ _ _ h => e_inK h
        · exact PEw (L2.pe_cmpR (opr_in false F.w.un) (O.e X C F _) (O.e X C F _) (mark_of hb)) fun _ _ _ h => e_in h
      · split
        · exact PEw (L2.pe_cmpR (opr_in true F.w.un) (O.p X C F _) (O.k X C F _) (mark_of hb)) fun _ _ _ h => e_inK h
        · exact PEw (L2.pe_cmpR (opr_in true F.w.un) (O.e X C F _) (O.e X C F _) (mark_of hb)) fun _ _ _ h => e_in h
      · exact ok_cmp O F hb
    · exact failE
  | IfExp t a b pos => simp only [stE]; exact PEw (L2.pe_ifExp (O.t X C F t) (O.e X C F a) (O.e X C F b)) fun _ _ _ h => e_if h
  | Tuple es k pos =>
    simp only [stE]
    split
    · rename_i h; exact PEw (pe_tup (pa_of O F h)) fun _ _ _ h => e_tup h
    · exact failE
  | List es pos =>
    simp only [stE]
    split
    · rename_i h; exact PEw (L2.pe_lst (pa_of O F h)) fun _ _ _ h => e_lst h
    · exact failE
  | Call f es kws pos =>
    cases kws with
    | nil => simp only [stE]; exact ok_call O F f es pos
    | cons _ _ => exact failE
  | ListComp elt gs scope pos => simp only [stE]; exact ok_comp O F elt gs scope pos
  | _ => exact failE
theorem ok_andT (O : SOk ct G S) (F : Fac X ct G C) (pos : Pos) : ∀ es : List Expr, es ≠ [] → PW X (.BoolOp .And es pos) (TTf X.K ct (andT (es.map (S.t C))))
  | [], h => absurd rfl h
  | [a], _ => L2.pw_and1 (O.t X C F a)
  | a :: b :: r, _ => by
    have := L2.pw_and (O.t X C F a) (ok_andT O F pos (b :: r) (by simp))
    exact ⟨fun wh pins s σ H Q I q => this.run wh pins s σ H Q I (t_and q)⟩
theorem ok_orT (O : SOk ct G S) (F : Fac X ct G C) (pos : Pos) : ∀ es : List Expr, es ≠ [] → PW X (.BoolOp .Or es pos) (TTf X.K ct (orT (es.map (S.t C))))
  | [], h => absurd rfl h
  | [a], _ => L2.pw_or1 (O.t X C F a)
  | a :: b :: r, _ => by
    have := L2.pw_or (O.t X C F a) (ok_orT O F pos (b :: r) (by simp))
    exact ⟨fun wh pins s σ H Q I q => this.run wh pins s σ H Q I (t_or q)⟩
theorem ok_t (O : SOk ct G S) (F : Fac X ct G C) (e : Expr) : PT X e (TTf X.K ct (stT S C e)) := by
  have gen : (∀ whole, isTrue e X.env whole = (do let v ← whole; standAt e.pos; holding [v] (truthy v))) → PT X e (TTf X.K ct (if isPath C e then tK (S.k C e) else tV (S.e C e))) := by
    intro he
    split
    · exact PTw (L2.pt_truth (O.k X C F e) he) fun _ _ _ h => t_k h
    · exact PTw (L2.pt_truth (O.e X C F e) he) fun _ _ _ h => t_v h
  cases e with
  | UnaryOp op a pos =>
    cases op with
    | Not => simp only [stT]; exact PTw (L2.pt_not (O.t X C F a)) fun _ _ _ h => t_not h
    | _ => exact gen fun _ => rfl
  | BoolOp op es pos =>
    cases op with
    | And =>
      simp only [stT]
      cases es with
      | nil => exact failT
      | cons a r => exact (ok_andT O F pos (a :: r) (by simp)).pt
    | Or =>
      simp only [stT]
      cases es with
      | nil => exact failT
      | cons a r => exact (ok_orT O F pos (a :: r) (by simp)).pt
  | Compare a ops bs pos =>
    unfold stT
    split
    all_goals first | exact failT | skip
    all_goals rename_i heq
    all_goals try cases heq
    · rename_i hb0
      split
      · rename_i hb
        unfold stCmp
        split
        · split
          · exact PTw (L2.pt_cmpR (opr_in false F.w.un) (O.p X C F _) (O.k X C F _) (mark_of hb)) fun _ _ _ h => e_inK (t_b h)
          · exact PTw (L2.pt_cmpR (opr_in false F.w.un) (O.e X C F _) (O.e X C F _) (mark_of hb)) fun _ _ _ h => e_in (t_b h)
        · split
          · exact PTw (L2.pt_cmpR (opr_in true F.w.un) (O.p X C F _) (O.k X C F _) (mark_of hb)) fun _ _ _ h => e_inK (t_b h)
          · exact PTw (L2.pt_cmpR (opr_in true F.w.un) (O.e X C F _) (O.e X C F _) (mark_of hb)) fun _ _ _ h => e_in (t_b h)
        · exact PTw (L2.pt_cmpR (opr_cmp _ F.w.un) (O.e X C F _) (O.e X C F _) (mark_of hb)) fun _ _ _ h => e_cmp (t_b h)
      · exact failT
    · rename_i z
      exact (z _ _ _ _ rfl).elim
  | IfExp _ _ _ _ => exact failT
  | _ => exact gen fun _ => rfl
theorem step_ok (O : SOk ct G S) : SOk ct G (Sm.step G S) := ⟨fun X C F e => ok_k O F e, fun X C F e => ok_p O F e, fun X C F e => ok_e O F e, fun X C F e => ok_t O F e⟩
theorem sm_ok : ∀ n, SOk ct G (sm G n)
  | 0 => bot_ok
  | n + 1 => step_ok (sm_ok n)
end
end Ev
set_option Elab.async false
set_option linter.all false
set_option maxRecDepth 100000
set_option maxHeartbeats 1000000
/-! .. statements. -/
namespace Ev
open PySem PySem.Spec PyProof.Rows PySem.Calls
open L2 (V HO Hp SqL SqT Same upd upd_same upd_ne Cx PE PT PA PI PG PS PSs PW PO PGs PTs Ends It Inv RelV Vals VK Gl TI XK Sp CXT FnOk Room Binds Passes Meth Cls Mk CX0 E0 FnScope OpR CallR IxR PlainIx)

section
variable {X : Cx} {ct : Str → Option Addr} {G : Gt} {C : Cn} {S : Sm} {fx : List Nat}
theorem PSw {st : Stmt} {t t' : L2.TS} (h : PS X st t) (w : ∀ D σ H, t' D σ H → t D σ H) : PS X st t' := ⟨fun pins s σ H D I q => h.run pins s σ H D I (w _ _ _ q)⟩
theorem PSsw {st : List Stmt} {t t' : L2.TS} (h : PSs X st t) (w : ∀ D σ H, t' D σ H → t D σ H) : PSs X st t' := ⟨fun pins s σ H D I q => h.run pins s σ H D I (w _ _ _ q)⟩
theorem failS {st : Stmt} : PS X st (TSf X.K ct fx sFail) := ⟨fun _ _ _ _ _ _ h => (s_fail h).elim⟩
theorem free_of {ns : List Nat} (h : freeOf fx ns = true) : ∀ j ∈ ns, j ∉ fx := fun j hj hm => by
  have := List.all_eq_true.mp h j hj
  simp [hm] at this
theorem setName (F : Fac X ct G C) {S0 : Sm} (O : SOk ct G S0) {x : Str} {p pos : Pos} {v : Expr} {i : Nat} (hi : wrSlot C x = some i) (hf : freeOf fx [i] = true) (hv : okX v = true) :
    PS X (.Assign [.Name x p] v pos) (TSf X.K ct fx (sAsg i ((Sm.step G S0).e C v))) := by
  obtain ⟨h1, h2, h3⟩ := wr_of F hi
  have hfi : i ∉ fx := free_of hf i (by simp)
  have plain : swapsWith v (some (.Name x p)) pos.line X.env = pure false → PS X (.Assign [.Name x p] v pos) (TSf X.K ct fx (sAsg i ((Sm.step G S0).e C v))) := fun hs =>
    PSw (L2.ps_set F.nd h1 h2 ((step_ok O).e X C F v) hs h3) fun _ _ _ h => s_asg hfi h
  cases v with
  | ListComp elt gs scope cp =>
    have hsw : swapsWith (.ListComp elt gs scope cp) (some (.Name x p)) pos.line X.env = pure (X.env.blockKind == .function && X.env.kindOf x == some .local && p.line == cp.line && !(scope.names.any fun (n, k) => n == x && (k == .local || k == .cell))) := rfl
    cases hb : (X.env.blockKind == .function && X.env.kindOf x == some .local && p.line == cp.line && !(scope.names.any fun (n, k) => n == x && (k == .local || k == .cell))) with
    | false => exact plain (by rw [hsw, hb])
    | true =>
      rw [hb] at hsw
      have hl : X.env.scope.names.lookup x = some .local := by
        simp only [Bool.and_eq_true] at hb
        have := hb.1.1.2
        simpa [Env.kindOf] using this
      show PS X _ (TSf X.K ct fx (sAsg i (stComp S0 C elt gs scope)))
      rcases comp_of O F elt gs scope with h | ⟨tg, iter, ifs, rfl, own, it, g, t, c, e, h1', h2', h3', h4', h5', h6'⟩ | ⟨tg, iter, ifs, tg1, iter1, ifs1, rfl, own, vs1, it, g, t, it1, g1, t1, c, e, h1', h2', hv', h3', h3'', h4', h5', k1', k2', k3', h6'⟩
      · rw [h]
        exact ⟨fun _ _ _ _ _ _ ⟨_, _, _, _, _, h, _⟩ => by simp [sAsg, nil1] at h⟩
      · rw [e]
        exact PSw (L2.ps_setLc F.calm F.nd h1 hl hsw h1' h2' h4' h5' h6' h3') fun _ _ _ h => e_comp (s_asg hfi h)
      · rw [e]
        exact PSw (L2.ps_setLc2 F.calm F.nd h1 hl hsw h1' h2' hv' h4' h5' k1' k2' k3' h6' h3' h3'') fun _ _ _ h => e_comp2 (s_asg hfi h)
  | SetComp _ _ _ _ => simp [okX] at hv
  | DictComp _ _ _ _ _ => simp [okX] at hv
  | _ => exact plain rfl
theorem ok_asg (F : Fac X ct G C) {S0 : Sm} (O : SOk ct G S0) (tg v : Expr) (pos : Pos) : PS X (.Assign [tg] v pos) (TSf X.K ct fx (stAsg G (Sm.step G S0) C fx tg v)) := by
  have OS := step_ok (G := G) O
  unfold stAsg
  split
  · rename_i x p
    split
    · rename_i i hi
      split
      · rename_i hc
        simp only [Bool.and_eq_true] at hc
        exact setName F O hi hc.1 hc.2
      · exact failS
    · exact failS
  · rename_i es k p
    split
    · exact failS
    · rename_i hc
      simp only [Bool.or_eq_true, not_or, Bool.not_eq_true] at hc
      split
      · rename_i g hg
        split
        · rename_i hf
          have hw : swappedStores [.Tuple es k p] v X.env = pure none := by
            cases v <;> first | rfl | (simp [isTup] at hc)
          exact PSw (L2.ps_asg (OS.e X C F v) (ok_g F hg) (show swapsWith v (some (.Tuple es k p)) pos.line X.env = pure false from swap_of hc.2) hw rfl) fun _ _ _ h => s_tgt (free_of hf) h
        · exact failS
      · exact failS
  · rename_i o i p
    · split
      · rename_i hi
        have ha : ∀ v, assign (.Subscript o i p) X.env v = (do
            let ov ← holding [v] (eval o X.env)
            let iv ← holding [v, ov] (eval i X.env)
            standAt p
            holding [v, ov, iv] (setItem ov iv v)
            release [v, ov, iv] []) := by
          intro v
          cases i <;> first | rfl | (simp [okX] at hi)
        have hw : swappedStores [.Subscript o i p] v X.env = pure none := by cases v <;> rfl
        exact PSw (L2.ps_asg (OS.e X C F v) (L2.pg_sub (OS.k X C F o) (OS.p X C F i) L2.set_list ha) (show swapsWith v (some (.Subscript o i p)) pos.line X.env = pure false from swap_sub) hw rfl) fun _ _ _ h => s_idx h
      · exact failS
  · rename_i o f p
    exact PSw (L2.ps_fld (OS.k X C F o) (OS.e X C F v) swap_att) fun _ _ _ h => s_fld F.w.fa h
  · exact failS
theorem ok_app (F : Fac X ct G C) {o a : Expr} {to ta : L2.TE} {apos cpos : Pos} (ho : PE X o to) (ha : PE X a ta) (hb : okB o = true) (hk : okX a = true) (hl : (apos.endLine == cpos.line) = true) :
    PE X (.Call (.Attribute o (Str.ofString "append") apos) [a] [] cpos) (L2.tBM X.K "list" L2.rAppend to (L2.tCons ta L2.tNil)) := by
  refine L2.pe_bm PySem.F.plainAttrs_list PySem.F.slot_list_append PySem.F.type_list_append L2.mt_append ho (L2.pa_cons ha L2.pa_nil (star_of hk)) (base_of hb) ?_ hl (star_of hk) rfl
  rw [star_one hk]
  rfl
theorem ok_exp (F : Fac X ct G C) (OS : SOk ct G S) (e : Expr) (pos : Pos) : PS X (.Expr e pos) (TSf X.K ct fx (stExp S C e)) := by
  unfold stExp
  split
  · exact PSw L2.ps_doc fun _ _ _ h => s_skip h
  · rename_i o m apos a cpos
    split
    · rename_i hm
      subst hm
      split
      · rename_i hc
        simp only [Bool.and_eq_true] at hc
        obtain ⟨⟨h1, h2⟩, h3⟩ := hc
        split
        · rename_i x p
          split
          · rename_i i hi
            obtain ⟨g1, g2, g3, g4⟩ := rd_of F hi
            exact PSw (L2.ps_expr (ok_app F (L2.pe_var g1 g2 g3 g4) (OS.e X C F a) h2 h1 h3)) fun _ _ _ h => s_app h
          · exact failS
        · exact PSw (L2.ps_expr (ok_app F (OS.k X C F o) (OS.p X C F a) h2 h1 h3)) fun _ _ _ h => s_appK h
      · exact failS
    · exact PSw (L2.ps_expr (OS.e X C F _)) fun _ _ _ h => s_drop h
  · split
    · exact failS
    · rename_i hc
      exact PSw (L2.ps_expr (OS.e X C F _) (swap_of (by simpa using hc))) fun _ _ _ h => s_drop h
theorem ok_aug (F : Fac X ct G C) (OS : SOk ct G S) (x : Str) (p : Pos) (op : Operator) (e : Expr) (pos : Pos) : PS X (.AugAssign (.Name x p) op e pos) (TSf X.K ct fx (augS C fx S x op e)) := by
  unfold augS
  split
  · rename_i i hi
    obtain ⟨h1, h2, h3⟩ := wr_of F hi
    split
    · rename_i hf
      have hfi : i ∉ fx := free_of hf i (by simp)
      split
      · exact PSw (L2.ps_aug F.nd h1 h2 (OS.e X C F e) L2.ip_add h3) fun _ _ _ h => s_aug (fun _ _ => rfl) hfi h
      · exact PSw (L2.ps_aug F.nd h1 h2 (OS.e X C F e) L2.ip_sub h3) fun _ _ _ h => s_aug (fun _ _ => rfl) hfi h
      · exact failS
    · exact failS
  · exact failS
mutual
theorem ok_s (F : Fac X ct G C) {S0 : Sm} (O : SOk ct G S0) : ∀ st : Stmt, PS X st (TSf X.K ct fx (stS G (Sm.step G S0) C fx st))
  | .Assign [] _ _ => failS
  | .Assign [tg] v pos => by unfold stS; exact ok_asg F O tg v pos
  | .Assign (_ :: _ :: _) _ _ => failS
  | .AugAssign tg op e pos => by
    cases tg with
    | Name x p => unfold stS; exact ok_aug F (step_ok O) x p op e pos
    | _ => exact failS
  | .Expr e pos => by unfold stS; exact ok_exp F (step_ok O) e pos
  | .Return none pos => by unfold stS; exact PSw L2.ps_retN fun _ _ _ h => s_retN h
  | .Return (some e) pos => by
    have gen : PS X (.Return (some e) pos) (TSf X.K ct fx (sRet ((Sm.step G S0).e C e))) := PSw (L2.ps_ret ((step_ok O).e X C F e)) fun _ _ _ h => s_ret h
    cases e with
    | Name x p =>
      unfold stS
      split
      · rename_i i hi
        obtain ⟨g1, g2, g3, g4⟩ := rd_of F hi
        exact PSw (L2.ps_ret (L2.pe_var g1 g2 g3 g4)) fun _ _ _ h => s_retV h
      · exact gen
    | _ => exact gen
  | .If c a b pos => by
    unfold stS
    exact PSw (L2.ps_if ((step_ok O).t X C F c) (ok_ss F O a) (ok_ss F O b)) fun _ _ _ h => s_if h
  | .For tg it body orelse pos => by
    cases orelse with
    | nil =>
      unfold stS
      split
      · rename_i i g hi hg
        split
        · rename_i hf
          obtain ⟨i1, i2⟩ := ok_i (step_ok O) F hi
          exact PSw (L2.ps_for (by rw [F.nox]; exact PassesOwn.never) F.calm i1 (ok_g F hg) (ok_ss F O body) i2) fun _ _ _ h => s_for (free_of hf) h
        · exact failS
      · exact failS
    | cons _ _ => exact failS
  | .While c body orelse pos => by
    cases orelse with
    | nil =>
      unfold stS
      exact PSw (L2.ps_while (by rw [F.nox]; exact PassesOwn.never) ((step_ok O).t X C F c) (ok_ss F O body)) fun _ _ _ h => s_while h
    | cons _ _ => exact failS
  | .Assert t m pos => by unfold stS; exact PSw (L2.ps_assert ((step_ok O).t X C F t)) fun _ _ _ h => s_assert h
  | .Break pos => by unfold stS; exact PSw L2.ps_break fun _ _ _ h => s_break h
  | .Continue pos => by unfold stS; exact PSw L2.ps_continue fun _ _ _ h => s_cont h
  | .Pass pos => by unfold stS; exact PSw L2.ps_pass fun _ _ _ h => s_skip h
  | .FunctionDef .. => failS
  | .AsyncFunctionDef .. => failS
  | .ClassDef .. => failS
  | .Delete .. => failS
  | .TypeAlias .. => failS
  | .AnnAssign .. => failS
  | .AsyncFor .. => failS
  | .With .. => failS
  | .AsyncWith .. => failS
  | .Match .. => failS
  | .Raise .. => failS
  | .Try .. => failS
  | .TryStar .. => failS
  | .Import .. => failS
  | .ImportFrom .. => failS
  | .Global .. => failS
  | .Nonlocal .. => failS
theorem ok_ss (F : Fac X ct G C) {S0 : Sm} (O : SOk ct G S0) : ∀ sts : List Stmt, PSs X sts (TSf X.K ct fx (stSs G (Sm.step G S0) C fx sts))
  | [] => by unfold stSs; exact PSsw L2.pss_nil fun _ _ _ h => s_skip h
  | s :: r => by unfold stSs; exact PSsw (L2.pss_cons (ok_s F O s) (ok_ss F O r)) fun _ _ _ h => s_seq h
end
end
end Ev
set_option Elab.async false
set_option linter.all false
set_option maxRecDepth 100000
set_option maxHeartbeats 1000000
/-! The table of a program's defs; what they compute, level by level; that they keep it. -/
namespace Ev
open PySem PySem.Spec PyProof.Rows PySem.Calls
open L2 (V HO Hp SqL SqT Same upd upd_same upd_ne Cx PE PT PA PI PG PS PSs PW PO PGs PTs Ends It Inv RelV Vals VK Gl TI XK Sp CXT FnOk Room Binds Passes Meth Cls Mk CX0 E0 FnScope OpR CallR IxR PlainIx FunD defArgs defBody defScope)

abbrev Pl : Type := Str × Option Str
/-- a def: where it stands, names, its row, its slots, its parameters, what it changes of them, defaults -/
structure Fd where
  at_ : Pl
  name : Str
  qual : Str
  st : Stmt
  N : List Str
  ps : List Str
  mu : List Nat
  dn : List Int
structure Tb where
  ds : List Fd
  cst : List (Str × D)
  bl : List (Str × String)
  cls : List (Str × List Str)
  wh : Nat
  fuel : Nat
def Tb.find (T : Tb) (p : Pl) : Option Fd := T.ds.find? fun d => decide (d.at_ = p)
def Fd.info (d : Fd) (r : Pl → Fn) : FnI := ⟨r d.at_, d.mu, d.ps.length, d.dn⟩
def Tb.gt (T : Tb) (r : Pl → Fn) (r1 : Option (Pl → Fn)) : Gt where
  fns := fun x => match T.find (x, none) with | some d => some (d.info r) | none => none
  mks := fun x => match r1 with
    | some r1 => (match T.cls.lookup x with
      | some _ => (match T.find (x, some ("__init__" : Str)) with | some d => some (d.info r1) | none => none)
      | none => none)
    | none => none
  mts := fun m c => match T.find (c, some m) with | some d => some (d.info r) | none => none
  cst := fun x => T.cst.lookup x
  bl := fun x => T.bl.lookup x
  fa := fun c f => match T.cls.lookup c with | some fs => fs.any fun g => decide (g = f) | none => false
  wh := T.wh
def Fd.body (T : Tb) (d : Fd) (G : Gt) : SS := stSs G (Sm.step G (sm G T.fuel)) ⟨d.N, defScope d.st, fun _ => true⟩ d.mu (defBody d.st)
def runs (T : Tb) : Nat → (Pl → Fn) × Option (Pl → Fn)
  | 0 => (fun _ _ => none, none)
  | k + 1 => (fun p => match T.find p with
    | some d => runF (d.body T (T.gt (runs T k).1 (runs T k).2)) d.N.length d.ps.length d.mu
    | none => fun _ => none, some (runs T k).1)
def run (T : Tb) (k : Nat) : Pl → Fn := (runs T k).1

def Fd.fun_ (d : Fd) (K : PySem.W.Frag) (fd : FuncData) : Prop := FunD K d.name d.qual (defArgs d.st) (defBody d.st) (defScope d.st) (d.dn.map V.int) [] (He.fAd K d.at_) fd
def Fd.bnd (d : Fd) : Prop := ∀ (K : PySem.W.Frag) (fd : FuncData), d.fun_ K fd → ∀ n, n + (FnI.fill ⟨fun _ => none, d.mu, d.ps.length, d.dn⟩ n).length = d.ps.length → ∃ ds, Vals ((FnI.fill ⟨fun _ => none, d.mu, d.ps.length, d.dn⟩ n).map V.int) ds ∧ Binds K fd d.ps ds
/-- what the text says by itself -/
structure Tb.Ok (T : Tb) : Prop where
  sc : ∀ d ∈ T.ds, FnScope d.N d.ps (defScope d.st)
  bnd : ∀ d ∈ T.ds, d.bnd
/-- what stands behind the top -/
structure Good (T : Tb) (K : PySem.W.Frag) (mg : Str → Option Value) : Prop where
  def_ : ∀ d ∈ T.ds, ∃ fd, d.fun_ K fd
  glo : ∀ d ∈ T.ds, d.at_.2 = none → mg d.at_.1 = some (.ref (He.ga K d.at_.1))
  free : ∀ b ∈ ["len", "list", "tuple", "sum", "min", "max", "sorted", "int", "abs", "isinstance", "set", "range", "enumerate", "reversed", "zip", "bool", "str", "all", "any"], mg (Str.ofString b) = none
  cst : ∀ q ∈ T.cst, ∃ v u, mg q.1 = some u ∧ RelV v u ∧ ∀ (ct : Str → Option Addr) B, RepD K ct B q.2 v
  bl : ∀ q ∈ T.bl, mg q.1 = some (.builtin q.2)
  cls : ∀ q ∈ T.cls, mg q.1 = some (.ref (He.ga K q.1)) ∧ Cls K (He.ga K q.1) ∧ Mk K (He.ga K q.1) (He.ma K (He.ga K q.1) "__init__") ∧ ∀ f ∈ q.2, L2.NoAttr K (He.ga K q.1) f
  meth : ∀ d ∈ T.ds, ∀ m, d.at_.2 = some m → m ≠ ("__init__" : Str) → Meth K (He.ga K d.at_.1) m (He.ma K (He.ga K d.at_.1) m)
def Tb.ct (T : Tb) (K : PySem.W.Frag) (c : Str) : Option Addr := match T.cls.lookup c with | some _ => some (He.ga K c) | none => none

section
variable {T : Tb} {K : PySem.W.Frag} {mg : Str → Option Value} {P : Program} {w : World} {base : Heap}
theorem find_of {p : Pl} {d : Fd} (h : T.find p = some d) : d ∈ T.ds ∧ d.at_ = p := by
  unfold Tb.find at h
  exact ⟨List.mem_of_find?_eq_some h, by simpa using List.find?_some h⟩
theorem fn_bot {k : Nat} {f : Addr} {fd : FuncData} {ps : List Str} {mu : List Nat} {ct : Str → Option Addr} : FnOk P w K mg base CX0 k f fd ps (spR K ct (fun _ => none) mu ps.length) :=
  ⟨fun vs H Q E h => h.1, fun A outer s H args us vs Q E hr e0 hb hv h => by obtain ⟨_, _, _, _, _, _, _, _, _, z, _⟩ := h; cases z⟩
theorem all_ok (ok : T.Ok) (g : Good T K mg) : ∀ (k : Nat) (p : Pl) (d : Fd) (fd : FuncData), T.find p = some d → d.fun_ K fd → FnOk P w K mg base CX0 k (He.fAd K p) fd d.ps (spR K (T.ct K) (run T k p) d.mu d.ps.length) ∧
    ∀ r1, (runs T k).2 = some r1 → ∃ j, k = j + 1 ∧ FnOk P w K mg base CX0 j (He.fAd K p) fd d.ps (spR K (T.ct K) (r1 p) d.mu d.ps.length)
  | 0, p, d, fd, hf, F => ⟨fn_bot, fun r1 h => by cases h⟩
  | k + 1, p, d, fd, hf, F => by
    obtain ⟨hd, rfl⟩ := find_of hf
    have ih := all_ok ok g k
    refine ⟨?_, fun r1 h => ⟨k, rfl, ?_⟩⟩
    · have er : run T (k + 1) d.at_ = runF (d.body T (T.gt (runs T k).1 (runs T k).2)) d.N.length d.ps.length d.mu := by
        show (match T.find d.at_ with | some d => _ | none => _) = _
        rw [hf]
      rw [er]
      have W : FnW K d.name d.qual (defArgs d.st) (defBody d.st) (defScope d.st) (He.fAd K d.at_) fd := by
        obtain ⟨oc, od, dV, kV, doc, pm, an, cdv, ct, osl, e1, e2, e3, _, _⟩ := F.ex
        exact ⟨oc, od, dV, kV, doc, pm, an, cdv, ct, osl, e1, e2, e3⟩
      refine fn_def W (ok.sc d hd) fun cdv A outer s H E hr => ?_
      have fac : Fac (L2.cxOf CX0 P w K mg base d.N d.qual (defScope d.st) (He.fAd K d.at_) cdv A outer s H E).nox (T.ct K) (T.gt (runs T k).1 (runs T k).2) ⟨d.N, defScope d.st, fun _ => true⟩ := by
        refine ⟨rfl, rfl, rfl, rfl, (ok.sc d hd).nd, rfl, (ok.sc d hd).kind, ⟨hr.units, g.free, fun x c h => ?_, fun x b h => g.bl (x, b) (PySem.mem_of_lookup (show T.bl.lookup x = some b from h)), fun x i h => ?_, fun x i h => ?_, fun m c i C h hC => ?_, fun c f C h hC => ?_⟩⟩
        · have h : T.cst.lookup x = some c := h
          obtain ⟨v, u, h1, h2, h3⟩ := g.cst (x, c) (PySem.mem_of_lookup h)
          exact ⟨v, u, h1, h2, fun B => h3 _ B⟩
        · simp only [Tb.gt] at h
          split at h
          · rename_i d2 hd2
            cases h
            obtain ⟨m2, e2⟩ := find_of hd2
            obtain ⟨fd2, F2⟩ := g.def_ d2 m2
            have gl := g.glo d2 m2 (by rw [e2])
            rw [e2] at gl
            refine ⟨k, He.fAd K (x, none), fd2, d2.ps, gl, ?_, ?_, hr, rfl, ok.bnd d2 m2 K fd2 F2⟩
            · have := F2.kp
              rw [e2] at this
              exact this
            · have := (ih (x, none) d2 fd2 hd2 F2).1
              unfold Fd.info
              rw [e2]
              exact this
          · cases h
        · simp only [Tb.gt] at h
          split at h
          · rename_i r1 hr1
            split at h
            · rename_i fs hfs
              split at h
              · rename_i d2 hd2
                cases h
                obtain ⟨m2, e2⟩ := find_of hd2
                obtain ⟨fd2, F2⟩ := g.def_ d2 m2
                obtain ⟨c1, c2, c3, c4⟩ := g.cls (x, fs) (PySem.mem_of_lookup hfs)
                obtain ⟨j, rfl, hj⟩ := (ih (x, some ("__init__" : Str)) d2 fd2 hd2 F2).2 r1 hr1
                refine ⟨j, He.ga K x, He.fAd K (x, some ("__init__" : Str)), fd2, d2.ps, c1, ?_, c2, c3, ?_, hr, rfl, ok.bnd d2 m2 K fd2 F2⟩
                · unfold Tb.ct; rw [hfs]
                · unfold Fd.info
                  rw [e2]
                  exact hj
              · cases h
            · cases h
          · cases h
        · simp only [Tb.gt] at h
          split at h
          · rename_i d2 hd2
            cases h
            obtain ⟨m2, e2⟩ := find_of hd2
            obtain ⟨fd2, F2⟩ := g.def_ d2 m2
            unfold Tb.ct at hC
            split at hC
            · rename_i fs hfs
              cases hC
              by_cases hm : m = ("__init__" : Str)
              · subst hm
                obtain ⟨c1, c2, c3, c4⟩ := g.cls (c, fs) (PySem.mem_of_lookup hfs)
                refine ⟨k, He.fAd K (c, some ("__init__" : Str)), fd2, d2.ps, ⟨c3.init, c3.fn, ?_⟩, ?_, hr, rfl, ok.bnd d2 m2 K fd2 F2⟩
                · have := F2.kp
                  rw [e2] at this
                  exact this
                · have := (ih _ d2 fd2 hd2 F2).1
                  unfold Fd.info
                  rw [e2]
                  exact this
              · have me := g.meth d2 m2 m (by rw [e2]) hm
                rw [e2] at me
                refine ⟨k, He.fAd K (c, some m), fd2, d2.ps, me, ?_, hr, rfl, ok.bnd d2 m2 K fd2 F2⟩
                have := (ih _ d2 fd2 hd2 F2).1
                unfold Fd.info
                rw [e2]
                exact this
            · cases hC
          · cases h
        · simp only [Tb.gt] at h
          split at h
          · rename_i fs hfs
            unfold Tb.ct at hC
            rw [hfs] at hC
            cases hC
            obtain ⟨c1, c2, c3, c4⟩ := g.cls (c, fs) (PySem.mem_of_lookup hfs)
            obtain ⟨f', hf', e'⟩ := List.any_eq_true.mp h
            have : f' = f := by simpa using e'
            subst this
            exact c4 f' hf'
          · cases h
      exact ok_ss fac (sm_ok T.fuel) (defBody d.st)
    · have : (runs T (k + 1)).2 = some (runs T k).1 := rfl
      rw [this] at h
      cases h
      exact (ih d.at_ d fd hf F).1
/-- the law: called with a list from outside -/
def spLaw (K : PySem.W.Frag) (n : Nat) : Sp := fun vs H Q _ => ∃ (a : Addr) (ns : List Int), vs = [.ref a] ∧ SqL K H a (ns.map V.int) ∧ ns.length ≤ n ∧ ∀ H', Q (.bl true) H'
theorem law_ok (ok : T.Ok) (g : Good T K mg) {k n : Nat} {d : Fd} {fd : FuncData} (hf : T.find (("law" : Str), none) = some d) (hmu : d.mu = []) (hps : d.ps.length = 1) (F : d.fun_ K fd)
    (law : ∀ ns : List Int, ns.length ≤ n → run T k (("law" : Str), none) [.d (.frl (ns.map .int))] = some (.d (.bl true), [])) : FnOk P w K mg base CX0 k (He.fAd K (("law" : Str), none)) fd d.ps (spLaw K n) := by
  refine (all_ok ok g k _ d fd hf F).1.imp fun vs H Q E h => ?_
  obtain ⟨a, ns, rfl, hS, hn, q⟩ := h
  rw [hmu, hps]
  refine ⟨rfl, H, [], [.d (.frl (ns.map .int)) (.ref a)], ⟨Same.refl _, by simp [MA.cellsL, MA.cells], by simp [MA.cellsL, MA.cells]⟩, ?_, rfl, _, _, by simpa [MA.ers, MA.er] using law ns hn, ?_⟩
  · unfold MA.oks MA.ok RepD
    exact ⟨⟨a, _, rfl, hS, RepDs.ints⟩, by unfold MA.oks; trivial⟩
  · intro v H' B' t us w1 sb okt oks et eu ev euv
    have : v = .bl true := by
      cases t with
      | d x v' =>
        simp only [MA.er, M.d.injEq] at et
        subst et
        unfold MA.ok RepD at okt
        rw [← ev]; exact okt
      | lst _ _ => simp [MA.er] at et
      | obj _ _ _ _ _ _ => simp [MA.er] at et
    subst this
    exact q H'
end
end Ev
set_option Elab.async false
set_option linter.all false
set_option maxRecDepth 100000
set_option maxHeartbeats 1000000
/-! From the head's facts to what the table asks; ways to bind. -/
namespace Ev
open PySem PySem.Spec PyProof.Rows PySem.Calls
open L2 (V HO Hp Vals FnOk Binds Meth Cls Mk FunD defArgs defBody defScope)

def Fd.dd (d : Fd) : He.DefD := ⟨d.at_, d.name, d.qual, defArgs d.st, defBody d.st, defScope d.st, d.dn.map He.Dv.int, []⟩
def blts : List String := ["len", "list", "tuple", "sum", "min", "max", "sorted", "int", "abs", "isinstance", "set", "range", "enumerate", "reversed", "zip", "bool", "str", "all", "any"]
def Fd.fa (d : Fd) : List He.Fa := match d.at_.2 with
  | none => [.glo d.at_.1]
  | some m => if m = ("__init__" : Str) then [] else [.meth d.at_.1 m]
def cstFa (q : Str × D) : List He.Fa := match q.2 with
  | .int i => [.int q.1 i]
  | .str s => [.str q.1 s]
  | .tup _ => [.glo q.1]
  | _ => []
def Tb.fa (T : Tb) : List He.Fa := T.ds.flatMap Fd.fa ++ blts.map (fun b => He.Fa.free (Str.ofString b)) ++ T.cst.flatMap cstFa ++ T.cls.flatMap fun q => [.glo q.1, .cls q.1, .mkr q.1] ++ q.2.map fun f => .noat q.1 f
/-- the module's name x is a plain tuple of these -/
def tupN (K : PySem.W.Frag) (x : Str) (vs : List V) : Bool := match K.lookup (He.ga K x) with
  | some ⟨.type c, none, .seq its _, _⟩ => decide (c = "tuple") && (decide (its.size ≤ sizeLine) && He.relAll vs its.toList)
  | _ => false
theorem tupN_ok {K : PySem.W.Frag} {x : Str} {vs : List V} (h : tupN K x vs = true) (B : Hp) : PTu K B (He.ga K x) vs := by
  unfold tupN at h
  cases q : K.lookup (He.ga K x) with
  | none =>
    rw [q] at h
    cases h
  | some o =>
    obtain ⟨oc, od, dt, osl⟩ := o
    rw [q] at h
    cases oc with
    | type c =>
      cases od with
      | none =>
        cases dt with
        | seq its n =>
          obtain ⟨h1, h2⟩ := He.ba (show (decide (c = "tuple") && (decide (its.size ≤ sizeLine) && He.relAll vs its.toList)) = true from h)
          obtain ⟨h3, h4⟩ := He.ba h2
          exact .inr ⟨_, its, n, q, congrArg Value.type (of_decide_eq_true h1), rfl, rfl, of_decide_eq_true h3, He.relAll_ok h4⟩
        | _ => cases h
      | some a => cases dt <;> cases h
    | _ => cases od <;> cases dt <;> cases h
/-- what the facts leave out -/
def cstB (K : PySem.W.Frag) (q : Str × D) : Bool := match q.2 with
  | .int _ => true
  | .str _ => true
  | .tup ds => (match asInts ds with | some is => tupN K q.1 (is.map V.int) | none => false)
  | _ => false
def Tb.ex (T : Tb) (K : PySem.W.Frag) : Bool := (T.bl.all fun q => He.eqO (PySem.W.nsIn K mainGlobals q.1) (some (some (.builtin q.2)))) && T.cst.all (cstB K)
abbrev AlB : Type := He.AlD × Bool
def obsBG (n : Nat) (fa : List He.Fa) (fn : List He.DefD) (ex : PySem.W.Frag → Bool) (g : Addr → Option Obj) : AlB := (He.obsD fa fn (He.frG g (He.asD g n)), ex (He.frG g (He.asD g n)))
def hookB (n : Nat) (fa : List He.Fa) (fn : List He.DefD) (ex : PySem.W.Frag → Bool) : PySem.W.Hook where
  α := AlB
  obs := fun s => obsBG n fa fn ex s.heap.get?
  val := fun _ => (He.valD fn, true)
  says := fun _ h => ∃ K : PySem.W.Frag, K.In h ∧ He.SaysD fa fn K ∧ ex K = true
  of := fun _ _ e => ⟨_, He.frG_in, congrArg (fun z : AlB => z.1) e, congrArg (fun z : AlB => z.2) e⟩
  keeps := fun _ _ _ ⟨K, hK, c⟩ k => ⟨K, PySem.W.Frag.In.keeps hK k, c⟩
theorem obsBG_eq {n : Nat} {fa : List He.Fa} {fn : List He.DefD} {ex : PySem.W.Frag → Bool} {g : Addr → Option Obj} {s : Shared} (h : ∀ a, g a = s.heap.get? a) : obsBG n fa fn ex g = (hookB n fa fn ex).obs s := by
  have e : g = s.heap.get? := funext h
  rw [e] <;> rfl
def Tb.fn (T : Tb) : List He.DefD := T.ds.map Fd.dd
theorem good_of {T : Tb} {K : PySem.W.Frag} {h : Heap} {mg : Str → Option Value} (X : K.In h) (N : h.Ns mainGlobals mg) (c : He.SaysD T.fa T.fn K) (cx : T.ex K = true) : Good T K mg := by
  have all : ∀ f ∈ T.fa, f.ok K = true := fun f hf => by
    obtain ⟨i, hi⟩ := List.mem_iff_getElem?.mp hf
    exact c.fact i hi
  have part : ∀ {f : He.Fa}, f ∈ T.ds.flatMap Fd.fa ∨ f ∈ blts.map (fun b => He.Fa.free (Str.ofString b)) ∨ f ∈ T.cst.flatMap cstFa ∨ f ∈ (T.cls.flatMap fun q => [He.Fa.glo q.1, .cls q.1, .mkr q.1] ++ q.2.map fun f => .noat q.1 f) → f.ok K = true := fun {f} h => all f (by
    unfold Tb.fa
    simp only [List.mem_append]
    rcases h with h | h | h | h
    · exact .inl (.inl (.inl h))
    · exact .inl (.inl (.inr h))
    · exact .inl (.inr h)
    · exact .inr h)
  obtain ⟨cx1, cx2⟩ := Bool.and_eq_true_iff.mp cx
  refine ⟨fun d hd => ?_, fun d hd h0 => ?_, fun b hb => ?_, fun q hq => ?_, fun q hq => ?_, fun q hq => ?_, fun d hd m hm hi => ?_⟩
  · obtain ⟨i, hi⟩ := List.mem_iff_getElem?.mp hd
    obtain ⟨fd, F⟩ := c.def_ i (d := d.dd) (by unfold Tb.fn; rw [List.getElem?_map, hi]; rfl)
    refine ⟨fd, ?_⟩
    have e : d.dd.dvs K = d.dn.map V.int := by
      unfold He.DefD.dvs Fd.dd
      rw [List.map_map]; rfl
    have e2 : d.dd.kws K = [] := rfl
    rw [e, e2] at F
    exact F
  · refine He.glo_ok X N (part (.inl (List.mem_flatMap.mpr ⟨d, hd, ?_⟩)))
    unfold Fd.fa
    rw [h0]
    exact List.mem_singleton.mpr rfl
  · exact He.free_ok X N (part (.inr (.inl (List.mem_map.mpr ⟨b, hb, rfl⟩))))
  · have inn : ∀ f ∈ cstFa q, f.ok K = true := fun f hf => part (.inr (.inr (.inl (List.mem_flatMap.mpr ⟨q, hq, hf⟩))))
    have hb := List.all_eq_true.mp cx2 q hq
    obtain ⟨x, d⟩ := q
    unfold cstFa at inn
    unfold cstB at hb
    cases d with
    | int i =>
      obtain ⟨t, ht⟩ := He.int_ok X N (inn (.int x i) (by simp))
      exact ⟨.int i, _, ht, ⟨t, rfl⟩, fun ct B => rep_int⟩
    | str s =>
      obtain ⟨t, ht⟩ := He.str_ok X N (inn (.str x s) (by simp))
      exact ⟨.str s, _, ht, ⟨t, rfl⟩, fun ct B => by unfold RepD; rfl⟩
    | tup ds =>
      simp only at hb
      split at hb
      · rename_i is hi
        have hg := He.glo_ok X N (inn (.glo x) (by simp))
        refine ⟨.ref (He.ga K x), _, hg, rfl, fun ct B => ?_⟩
        unfold RepD
        rw [asInts_map hi]
        exact ⟨_, is.map V.int, rfl, tupN_ok hb B, RepDs.ints⟩
      · cases hb
    | _ => cases hb
  · exact PySem.W.mg_of X N (He.eqO_ok (List.all_eq_true.mp cx1 q hq))
  · have go : ∀ f ∈ ([He.Fa.glo q.1, .cls q.1, .mkr q.1] ++ q.2.map fun f => .noat q.1 f), f.ok K = true := fun f hf => part (.inr (.inr (.inr (List.mem_flatMap.mpr ⟨q, hq, hf⟩))))
    refine ⟨He.glo_ok X N (go _ (by simp)), He.cls_ok (go _ (by simp)), He.mkr_ok (go _ (by simp)), fun f hf => He.noat_ok (go _ (List.mem_append_right _ (List.mem_map.mpr ⟨f, hf, rfl⟩)))⟩
  · refine He.meth_ok (part (.inl (List.mem_flatMap.mpr ⟨d, hd, ?_⟩)))
    unfold Fd.fa
    rw [hm]
    simp only
    rw [if_neg hi]
    exact List.mem_singleton.mpr rfl
/-- a def without defaults -/
theorem bnd_0 {d : Fd} (h0 : d.dn = []) (h : ∀ (kV doc pm : Value) (an : Option Addr) (cdv ct : Value) (us : List Value), us.length = d.ps.length → bindArgs (PySem.W.fnOf d.name d.qual (defArgs d.st) (defBody d.st) (defScope d.st) .none kV doc pm an cdv ct) ⟨us, []⟩ = pure (d.ps.zip us)) : d.bnd := by
  intro K fd F n hn
  unfold Fd.fun_ at F
  unfold FnI.fill
  rw [h0] at F ⊢
  simp only [List.drop_nil, List.map_nil]
  exact ⟨[], .nil, F.bindsN h⟩
/-- a def with defaults -/
theorem bnd_1 {d : Fd} (h0 : d.dn ≠ []) (h : ∀ n j, n + (d.dn.length - j) = d.ps.length → j ≤ d.dn.length → ∀ (T : Addr) (kV doc pm : Value) (an : Option Addr) (cdv ct : Value) (us its : List Value), us.length = n → its.length = d.dn.length →
      ∃ k, bindArgs (PySem.W.fnOf d.name d.qual (defArgs d.st) (defBody d.st) (defScope d.st) (.ref T) kV doc pm an cdv ct) ⟨us, []⟩ = seqItems? (.ref T) >>= k ∧ k (some its.toArray) = pure (d.ps.zip (us ++ its.drop j))) : d.bnd := by
  intro K fd F n hn
  unfold FnI.fill at hn ⊢
  simp only at hn ⊢
  have hl : (d.dn.map V.int).length = d.dn.length := List.length_map ..
  rw [List.length_drop] at hn
  obtain ⟨ds, h1, h2⟩ := F.binds1 n (d.dn.length - (d.ps.length - n)) (by simpa using h0) (by rw [hl]; omega) (by
    intro T kV doc pm an cdv ct us its hu hi
    rw [hl] at hi
    exact h n _ (by omega) (by omega) T kV doc pm an cdv ct us its hu hi)
  exact ⟨ds, by rw [List.map_drop]; exact h1, h2⟩
end Ev
set_option Elab.async false
set_option linter.all false
set_option maxRecDepth 100000
set_option maxHeartbeats 0
namespace Tw
open PySem PySem.Spec PyProof.Rows Ev
open L2 (FnScope defArgs defBody defScope inClass)
def top (i : Nat) : Stmt := PySem.Challenge.pw_turnwright_k68_checks_of_the_club_book.main.body.getD i (.Pass ⟨0, 0, 0, 0⟩)
def inC (i j : Nat) : Stmt := inClass (top i) j
def d_draws_with : Fd := ⟨("draws_with", none), "draws_with", "draws_with", top 2, ["slips", "wrong", "looked", "found"], ["slips", "wrong", "looked", "found"], [], []⟩
def d_counts : Fd := ⟨("counts", none), "counts", "counts", top 3, ["slips", "wrong", "looked", "k"], ["slips", "wrong", "looked"], [], []⟩
def d_is_share : Fd := ⟨("is_share", none), "is_share", "is_share", top 4, ["chance", "part", "whole", "above", "under"], ["chance", "part", "whole"], [], []⟩
def d_is_chance : Fd := ⟨("is_chance", none), "is_chance", "is_chance", top 5, ["slips", "wrong", "looked", "chance", "rows"], ["slips", "wrong", "looked", "chance"], [], []⟩
def d_is_enough : Fd := ⟨("is_enough", none), "is_enough", "is_enough", top 6, ["slips", "wrong", "looked", "sure", "whole", "found"], ["slips", "wrong", "looked", "sure"], [], []⟩
def d_is_least_looked : Fd := ⟨("is_least_looked", none), "is_least_looked", "is_least_looked", top 7, ["slips", "wrong", "sure", "looked"], ["slips", "wrong", "sure", "looked"], [], []⟩
def d_is_mean : Fd := ⟨("is_mean", none), "is_mean", "is_mean", top 8, ["slips", "wrong", "looked", "mean", "rows", "k", "many"], ["slips", "wrong", "looked", "mean"], [], []⟩
def d_is_peak : Fd := ⟨("is_peak", none), "is_peak", "is_peak", top 9, ["slips", "wrong", "looked", "found", "rows"], ["slips", "wrong", "looked", "found"], [], []⟩
def d_better_of : Fd := ⟨("better_of", none), "better_of", "better_of", top 10, ["one", "other"], ["one", "other"], [], []⟩
def d_behind_heap : Fd := ⟨("behind_heap", none), "behind_heap", "behind_heap", top 11, ["rows", "many", "later", "placed", "best", "here", "ahead"], ["rows", "many"], [], []⟩
def d_is_most_looks : Fd := ⟨("is_most_looks", none), "is_most_looks", "is_most_looks", top 12, ["slips", "wrong", "size", "looks", "rows", "left", "many"], ["slips", "wrong", "size", "looks"], [], []⟩
def d_is_integer : Fd := ⟨("is_integer", none), "is_integer", "is_integer", top 18, ["value"], ["value"], [], []⟩
def d_is_within : Fd := ⟨("is_within", none), "is_within", "is_within", top 19, ["value", "low", "high"], ["value", "low", "high"], [], []⟩
def d_is_sequence : Fd := ⟨("is_sequence", none), "is_sequence", "is_sequence", top 20, ["value"], ["value"], [], []⟩
def d_need : Fd := ⟨("need", none), "need", "need", top 21, ["holds", "at"], ["holds", "at"], [], []⟩
def d_need_integer : Fd := ⟨("need_integer", none), "need_integer", "need_integer", top 22, ["value", "low", "high", "at"], ["value", "low", "high", "at"], [], []⟩
def d_need_sequence : Fd := ⟨("need_sequence", none), "need_sequence", "need_sequence", top 23, ["value", "fewest", "most", "at"], ["value", "fewest", "most", "at"], [], []⟩
def d_need_fraction : Fd := ⟨("need_fraction", none), "need_fraction", "need_fraction", top 24, ["value", "at", "most", "pair", "top", "bottom"], ["value", "at", "most"], [], [1000000]⟩
def d_fraction : Fd := ⟨("fraction", none), "fraction", "fraction", top 26, ["top", "bottom", "common"], ["top", "bottom"], [], []⟩
def d_check_slips : Fd := ⟨("check_slips", none), "check_slips", "check_slips", top 30, ["slips", "at"], ["slips", "at"], [], []⟩
def d_check_part : Fd := ⟨("check_part", none), "check_part", "check_part", top 31, ["part", "at"], ["part", "at"], [], []⟩
def d_check_few : Fd := ⟨("check_few", none), "check_few", "check_few", top 32, ["wrong", "at"], ["wrong", "at"], [], []⟩
def d_check_size : Fd := ⟨("check_size", none), "check_size", "check_size", top 33, ["size", "at"], ["size", "at"], [], []⟩
def d_check_sure : Fd := ⟨("check_sure", none), "check_sure", "check_sure", top 34, ["sure", "at", "pair"], ["sure", "at"], [], []⟩
def d_meet_part : Fd := ⟨("meet_part", none), "meet_part", "meet_part", top 35, ["slips", "part", "at"], ["slips", "part", "at"], [], []⟩
def d_missed : Fd := ⟨("missed", none), "missed", "missed", top 36, ["slips", "wrong", "looked", "above", "under", "drawn"], ["slips", "wrong", "looked"], [], []⟩
def d_found_chance : Fd := ⟨("found_chance", none), "found_chance", "found_chance", top 37, ["slips", "wrong", "looked", "above", "under"], ["slips", "wrong", "looked"], [], []⟩
def d_looks_for : Fd := ⟨("looks_for", none), "looks_for", "looks_for", top 38, ["slips", "wrong", "sure", "above", "under", "looked"], ["slips", "wrong", "sure"], [], []⟩
def d_mean_of : Fd := ⟨("mean_of", none), "mean_of", "mean_of", top 39, ["slips", "wrong", "looked"], ["slips", "wrong", "looked"], [], []⟩
def d_peak_of : Fd := ⟨("peak_of", none), "peak_of", "peak_of", top 40, ["slips", "wrong", "looked"], ["slips", "wrong", "looked"], [], []⟩
def d_heap_sizes : Fd := ⟨("heap_sizes", none), "heap_sizes", "heap_sizes", top 42, ["slips", "size", "sizes", "rest"], ["slips", "size"], [], []⟩
def d_most_looks : Fd := ⟨("most_looks", none), "most_looks", "most_looks", top 43, ["slips", "wrong", "size", "sizes"], ["slips", "wrong", "size"], [], []⟩
def d_check_draw : Fd := ⟨("check_draw", none), "check_draw", "check_draw", top 45, ["slips", "wrong", "looked"], ["slips", "wrong", "looked"], [], []⟩
def d_chance_found : Fd := ⟨("chance_found", none), "chance_found", "chance_found", top 46, ["slips", "wrong", "looked", "chance"], ["slips", "wrong", "looked"], [], []⟩
def d_least_looked : Fd := ⟨("least_looked", none), "least_looked", "least_looked", top 47, ["slips", "wrong", "sure", "pair", "looked"], ["slips", "wrong", "sure"], [], []⟩
def d_mean_found : Fd := ⟨("mean_found", none), "mean_found", "mean_found", top 48, ["slips", "wrong", "looked", "mean"], ["slips", "wrong", "looked"], [], []⟩
def d_most_likely_found : Fd := ⟨("most_likely_found", none), "most_likely_found", "most_likely_found", top 49, ["slips", "wrong", "looked", "found"], ["slips", "wrong", "looked"], [], []⟩
def d_pooled : Fd := ⟨("pooled", none), "pooled", "pooled", top 50, ["slips", "wrong", "size", "looks"], ["slips", "wrong", "size"], [], []⟩
def d__law_numbers : Fd := ⟨("_law_numbers", none), "_law_numbers", "_law_numbers", top 52, ["script", "row", "single", "left", "k", "stirred"], ["script"], [], []⟩
def d__law_draw : Fd := ⟨("_law_draw", none), "_law_draw", "_law_draw", top 53, ["row", "at", "limit", "stirred"], ["row", "at", "limit"], [], []⟩
def d__law_take : Fd := ⟨("_law_take", none), "_law_take", "_law_take", top 54, ["row", "spot", "limit"], ["row", "spot", "limit"], [1], []⟩
def d__law_pick : Fd := ⟨("_law_pick", none), "_law_pick", "_law_pick", top 55, ["row", "spot", "things"], ["row", "spot", "things"], [1], []⟩
def d__law_gcd : Fd := ⟨("_law_gcd", none), "_law_gcd", "_law_gcd", top 56, ["one", "other", "left", "right", "k", "over_by"], ["one", "other"], [], []⟩
def d__law_sets : Fd := ⟨("_law_sets", none), "_law_sets", "_law_sets", top 57, ["names", "made", "name", "one"], ["names"], [], []⟩
def d__law_red : Fd := ⟨("_law_red", none), "_law_red", "_law_red", top 58, ["n", "d", "common"], ["n", "d"], [], []⟩
def d__law_less : Fd := ⟨("_law_less", none), "_law_less", "_law_less", top 59, ["one", "other"], ["one", "other"], [], []⟩
def d__law_figure : Fd := ⟨("_law_figure", none), "_law_figure", "_law_figure", top 60, ["row", "spot", "many", "left", "k", "made", "pick", "other"], ["row", "spot", "many"], [1], []⟩
def d_law : Fd := ⟨("law", none), "law", "law", top 61, ["script", "row", "spot", "slips", "wrong", "places", "every_set", "k", "looked", "sets_of", "some", "hits", "one", "counts_v", "n", "sure", "enough", "few", "size", "heaps", "j", "worst", "looks", "heap"], ["script"], [], []⟩
theorem sc_d_draws_with : FnScope d_draws_with.N d_draws_with.ps (defScope d_draws_with.st) := ⟨rfl, rfl, rfl, by decide +kernel, rfl, by decide +kernel, by decide +kernel⟩
theorem sc_d_counts : FnScope d_counts.N d_counts.ps (defScope d_counts.st) := ⟨rfl, rfl, rfl, by decide +kernel, rfl, by decide +kernel, by decide +kernel⟩
theorem sc_d_is_share : FnScope d_is_share.N d_is_share.ps (defScope d_is_share.st) := ⟨rfl, rfl, rfl, by decide +kernel, rfl, by decide +kernel, by decide +kernel⟩
theorem sc_d_is_chance : FnScope d_is_chance.N d_is_chance.ps (defScope d_is_chance.st) := ⟨rfl, rfl, rfl, by decide +kernel, rfl, by decide +kernel, by decide +kernel⟩
theorem sc_d_is_enough : FnScope d_is_enough.N d_is_enough.ps (defScope d_is_enough.st) := ⟨rfl, rfl, rfl, by decide +kernel, rfl, by decide +kernel, by decide +kernel⟩
theorem sc_d_is_least_looked : FnScope d_is_least_looked.N d_is_least_looked.ps (defScope d_is_least_looked.st) := ⟨rfl, rfl, rfl, by decide +kernel, rfl, by decide +kernel, by decide +kernel⟩
theorem sc_d_is_mean : FnScope d_is_mean.N d_is_mean.ps (defScope d_is_mean.st) := ⟨rfl, rfl, rfl, by decide +kernel, rfl, by decide +kernel, by decide +kernel⟩
theorem sc_d_is_peak : FnScope d_is_peak.N d_is_peak.ps (defScope d_is_peak.st) := ⟨rfl, rfl, rfl, by decide +kernel, rfl, by decide +kernel, by decide +kernel⟩
theorem sc_d_better_of : FnScope d_better_of.N d_better_of.ps (defScope d_better_of.st) := ⟨rfl, rfl, rfl, by decide +kernel, rfl, by decide +kernel, by decide +kernel⟩
theorem sc_d_behind_heap : FnScope d_behind_heap.N d_behind_heap.ps (defScope d_behind_heap.st) := ⟨rfl, rfl, rfl, by decide +kernel, rfl, by decide +kernel, by decide +kernel⟩
theorem sc_d_is_most_looks : FnScope d_is_most_looks.N d_is_most_looks.ps (defScope d_is_most_looks.st) := ⟨rfl, rfl, rfl, by decide +kernel, rfl, by decide +kernel, by decide +kernel⟩
theorem sc_d_is_integer : FnScope d_is_integer.N d_is_integer.ps (defScope d_is_integer.st) := ⟨rfl, rfl, rfl, by decide +kernel, rfl, by decide +kernel, by decide +kernel⟩
theorem sc_d_is_within : FnScope d_is_within.N d_is_within.ps (defScope d_is_within.st) := ⟨rfl, rfl, rfl, by decide +kernel, rfl, by decide +kernel, by decide +kernel⟩
theorem sc_d_is_sequence : FnScope d_is_sequence.N d_is_sequence.ps (defScope d_is_sequence.st) := ⟨rfl, rfl, rfl, by decide +kernel, rfl, by decide +kernel, by decide +kernel⟩
theorem sc_d_need : FnScope d_need.N d_need.ps (defScope d_need.st) := ⟨rfl, rfl, rfl, by decide +kernel, rfl, by decide +kernel, by decide +kernel⟩
theorem sc_d_need_integer : FnScope d_need_integer.N d_need_integer.ps (defScope d_need_integer.st) := ⟨rfl, rfl, rfl, by decide +kernel, rfl, by decide +kernel, by decide +kernel⟩
theorem sc_d_need_sequence : FnScope d_need_sequence.N d_need_sequence.ps (defScope d_need_sequence.st) := ⟨rfl, rfl, rfl, by decide +kernel, rfl, by decide +kernel, by decide +kernel⟩
theorem sc_d_need_fraction : FnScope d_need_fraction.N d_need_fraction.ps (defScope d_need_fraction.st) := ⟨rfl, rfl, rfl, by decide +kernel, rfl, by decide +kernel, by decide +kernel⟩
theorem sc_d_fraction : FnScope d_fraction.N d_fraction.ps (defScope d_fraction.st) := ⟨rfl, rfl, rfl, by decide +kernel, rfl, by decide +kernel, by decide +kernel⟩
theorem sc_d_check_slips : FnScope d_check_slips.N d_check_slips.ps (defScope d_check_slips.st) := ⟨rfl, rfl, rfl, by decide +kernel, rfl, by decide +kernel, by decide +kernel⟩
theorem sc_d_check_part : FnScope d_check_part.N d_check_part.ps (defScope d_check_part.st) := ⟨rfl, rfl, rfl, by decide +kernel, rfl, by decide +kernel, by decide +kernel⟩
theorem sc_d_check_few : FnScope d_check_few.N d_check_few.ps (defScope d_check_few.st) := ⟨rfl, rfl, rfl, by decide +kernel, rfl, by decide +kernel, by decide +kernel⟩
theorem sc_d_check_size : FnScope d_check_size.N d_check_size.ps (defScope d_check_size.st) := ⟨rfl, rfl, rfl, by decide +kernel, rfl, by decide +kernel, by decide +kernel⟩
theorem sc_d_check_sure : FnScope d_check_sure.N d_check_sure.ps (defScope d_check_sure.st) := ⟨rfl, rfl, rfl, by decide +kernel, rfl, by decide +kernel, by decide +kernel⟩
theorem sc_d_meet_part : FnScope d_meet_part.N d_meet_part.ps (defScope d_meet_part.st) := ⟨rfl, rfl, rfl, by decide +kernel, rfl, by decide +kernel, by decide +kernel⟩
theorem sc_d_missed : FnScope d_missed.N d_missed.ps (defScope d_missed.st) := ⟨rfl, rfl, rfl, by decide +kernel, rfl, by decide +kernel, by decide +kernel⟩
theorem sc_d_found_chance : FnScope d_found_chance.N d_found_chance.ps (defScope d_found_chance.st) := ⟨rfl, rfl, rfl, by decide +kernel, rfl, by decide +kernel, by decide +kernel⟩
theorem sc_d_looks_for : FnScope d_looks_for.N d_looks_for.ps (defScope d_looks_for.st) := ⟨rfl, rfl, rfl, by decide +kernel, rfl, by decide +kernel, by decide +kernel⟩
theorem sc_d_mean_of : FnScope d_mean_of.N d_mean_of.ps (defScope d_mean_of.st) := ⟨rfl, rfl, rfl, by decide +kernel, rfl, by decide +kernel, by decide +kernel⟩
theorem sc_d_peak_of : FnScope d_peak_of.N d_peak_of.ps (defScope d_peak_of.st) := ⟨rfl, rfl, rfl, by decide +kernel, rfl, by decide +kernel, by decide +kernel⟩
theorem sc_d_heap_sizes : FnScope d_heap_sizes.N d_heap_sizes.ps (defScope d_heap_sizes.st) := ⟨rfl, rfl, rfl, by decide +kernel, rfl, by decide +kernel, by decide +kernel⟩
theorem sc_d_most_looks : FnScope d_most_looks.N d_most_looks.ps (defScope d_most_looks.st) := ⟨rfl, rfl, rfl, by decide +kernel, rfl, by decide +kernel, by decide +kernel⟩
theorem sc_d_check_draw : FnScope d_check_draw.N d_check_draw.ps (defScope d_check_draw.st) := ⟨rfl, rfl, rfl, by decide +kernel, rfl, by decide +kernel, by decide +kernel⟩
theorem sc_d_chance_found : FnScope d_chance_found.N d_chance_found.ps (defScope d_chance_found.st) := ⟨rfl, rfl, rfl, by decide +kernel, rfl, by decide +kernel, by decide +kernel⟩
theorem sc_d_least_looked : FnScope d_least_looked.N d_least_looked.ps (defScope d_least_looked.st) := ⟨rfl, rfl, rfl, by decide +kernel, rfl, by decide +kernel, by decide +kernel⟩
theorem sc_d_mean_found : FnScope d_mean_found.N d_mean_found.ps (defScope d_mean_found.st) := ⟨rfl, rfl, rfl, by decide +kernel, rfl, by decide +kernel, by decide +kernel⟩
theorem sc_d_most_likely_found : FnScope d_most_likely_found.N d_most_likely_found.ps (defScope d_most_likely_found.st) := ⟨rfl, rfl, rfl, by decide +kernel, rfl, by decide +kernel, by decide +kernel⟩
theorem sc_d_pooled : FnScope d_pooled.N d_pooled.ps (defScope d_pooled.st) := ⟨rfl, rfl, rfl, by decide +kernel, rfl, by decide +kernel, by decide +kernel⟩
theorem sc_d__law_numbers : FnScope d__law_numbers.N d__law_numbers.ps (defScope d__law_numbers.st) := ⟨rfl, rfl, rfl, by decide +kernel, rfl, by decide +kernel, by decide +kernel⟩
theorem sc_d__law_draw : FnScope d__law_draw.N d__law_draw.ps (defScope d__law_draw.st) := ⟨rfl, rfl, rfl, by decide +kernel, rfl, by decide +kernel, by decide +kernel⟩
theorem sc_d__law_take : FnScope d__law_take.N d__law_take.ps (defScope d__law_take.st) := ⟨rfl, rfl, rfl, by decide +kernel, rfl, by decide +kernel, by decide +kernel⟩
theorem sc_d__law_pick : FnScope d__law_pick.N d__law_pick.ps (defScope d__law_pick.st) := ⟨rfl, rfl, rfl, by decide +kernel, rfl, by decide +kernel, by decide +kernel⟩
theorem sc_d__law_gcd : FnScope d__law_gcd.N d__law_gcd.ps (defScope d__law_gcd.st) := ⟨rfl, rfl, rfl, by decide +kernel, rfl, by decide +kernel, by decide +kernel⟩
theorem sc_d__law_sets : FnScope d__law_sets.N d__law_sets.ps (defScope d__law_sets.st) := ⟨rfl, rfl, rfl, by decide +kernel, rfl, by decide +kernel, by decide +kernel⟩
theorem sc_d__law_red : FnScope d__law_red.N d__law_red.ps (defScope d__law_red.st) := ⟨rfl, rfl, rfl, by decide +kernel, rfl, by decide +kernel, by decide +kernel⟩
theorem sc_d__law_less : FnScope d__law_less.N d__law_less.ps (defScope d__law_less.st) := ⟨rfl, rfl, rfl, by decide +kernel, rfl, by decide +kernel, by decide +kernel⟩
theorem sc_d__law_figure : FnScope d__law_figure.N d__law_figure.ps (defScope d__law_figure.st) := ⟨rfl, rfl, rfl, by decide +kernel, rfl, by decide +kernel, by decide +kernel⟩
theorem sc_d_law : FnScope d_law.N d_law.ps (defScope d_law.st) := ⟨rfl, rfl, rfl, by decide +kernel, rfl, by decide +kernel, by decide +kernel⟩
theorem bn_d_draws_with : d_draws_with.bnd := bnd_0 rfl fun _ _ _ _ _ _ us hl => match us, hl with | [_, _, _, _], _ => rfl
theorem bn_d_counts : d_counts.bnd := bnd_0 rfl fun _ _ _ _ _ _ us hl => match us, hl with | [_, _, _], _ => rfl
theorem bn_d_is_share : d_is_share.bnd := bnd_0 rfl fun _ _ _ _ _ _ us hl => match us, hl with | [_, _, _], _ => rfl
theorem bn_d_is_chance : d_is_chance.bnd := bnd_0 rfl fun _ _ _ _ _ _ us hl => match us, hl with | [_, _, _, _], _ => rfl
theorem bn_d_is_enough : d_is_enough.bnd := bnd_0 rfl fun _ _ _ _ _ _ us hl => match us, hl with | [_, _, _, _], _ => rfl
theorem bn_d_is_least_looked : d_is_least_looked.bnd := bnd_0 rfl fun _ _ _ _ _ _ us hl => match us, hl with | [_, _, _, _], _ => rfl
theorem bn_d_is_mean : d_is_mean.bnd := bnd_0 rfl fun _ _ _ _ _ _ us hl => match us, hl with | [_, _, _, _], _ => rfl
theorem bn_d_is_peak : d_is_peak.bnd := bnd_0 rfl fun _ _ _ _ _ _ us hl => match us, hl with | [_, _, _, _], _ => rfl
theorem bn_d_better_of : d_better_of.bnd := bnd_0 rfl fun _ _ _ _ _ _ us hl => match us, hl with | [_, _], _ => rfl
theorem bn_d_behind_heap : d_behind_heap.bnd := bnd_0 rfl fun _ _ _ _ _ _ us hl => match us, hl with | [_, _], _ => rfl
theorem bn_d_is_most_looks : d_is_most_looks.bnd := bnd_0 rfl fun _ _ _ _ _ _ us hl => match us, hl with | [_, _, _, _], _ => rfl
theorem bn_d_is_integer : d_is_integer.bnd := bnd_0 rfl fun _ _ _ _ _ _ us hl => match us, hl with | [_], _ => rfl
theorem bn_d_is_within : d_is_within.bnd := bnd_0 rfl fun _ _ _ _ _ _ us hl => match us, hl with | [_, _, _], _ => rfl
theorem bn_d_is_sequence : d_is_sequence.bnd := bnd_0 rfl fun _ _ _ _ _ _ us hl => match us, hl with | [_], _ => rfl
theorem bn_d_need : d_need.bnd := bnd_0 rfl fun _ _ _ _ _ _ us hl => match us, hl with | [_, _], _ => rfl
theorem bn_d_need_integer : d_need_integer.bnd := bnd_0 rfl fun _ _ _ _ _ _ us hl => match us, hl with | [_, _, _, _], _ => rfl
theorem bn_d_need_sequence : d_need_sequence.bnd := bnd_0 rfl fun _ _ _ _ _ _ us hl => match us, hl with | [_, _, _, _], _ => rfl
theorem bn_d_need_fraction : d_need_fraction.bnd := bnd_1 (by decide) fun n j h1 h2 => by
  have h1 : n + (1 - j) = 3 := h1
  have h2 : j ≤ 1 := h2
  intro T kV doc pm an cdv ct us its hu hi
  have hi : its.length = 1 := hi
  match its, hi with
  | [i0], _ =>
    rcases (show j = 0 ∧ n = 2 ∨ j = 1 ∧ n = 3 by omega) with ⟨rfl, rfl⟩ | ⟨rfl, rfl⟩
    · match us, hu with | [_, _], _ => exact ⟨_, rfl, rfl⟩
    · match us, hu with | [_, _, _], _ => exact ⟨_, rfl, rfl⟩
theorem bn_d_fraction : d_fraction.bnd := bnd_0 rfl fun _ _ _ _ _ _ us hl => match us, hl with | [_, _], _ => rfl
theorem bn_d_check_slips : d_check_slips.bnd := bnd_0 rfl fun _ _ _ _ _ _ us hl => match us, hl with | [_, _], _ => rfl
theorem bn_d_check_part : d_check_part.bnd := bnd_0 rfl fun _ _ _ _ _ _ us hl => match us, hl with | [_, _], _ => rfl
theorem bn_d_check_few : d_check_few.bnd := bnd_0 rfl fun _ _ _ _ _ _ us hl => match us, hl with | [_, _], _ => rfl
theorem bn_d_check_size : d_check_size.bnd := bnd_0 rfl fun _ _ _ _ _ _ us hl => match us, hl with | [_, _], _ => rfl
theorem bn_d_check_sure : d_check_sure.bnd := bnd_0 rfl fun _ _ _ _ _ _ us hl => match us, hl with | [_, _], _ => rfl
theorem bn_d_meet_part : d_meet_part.bnd := bnd_0 rfl fun _ _ _ _ _ _ us hl => match us, hl with | [_, _, _], _ => rfl
theorem bn_d_missed : d_missed.bnd := bnd_0 rfl fun _ _ _ _ _ _ us hl => match us, hl with | [_, _, _], _ => rfl
theorem bn_d_found_chance : d_found_chance.bnd := bnd_0 rfl fun _ _ _ _ _ _ us hl => match us, hl with | [_, _, _], _ => rfl
theorem bn_d_looks_for : d_looks_for.bnd := bnd_0 rfl fun _ _ _ _ _ _ us hl => match us, hl with | [_, _, _], _ => rfl
theorem bn_d_mean_of : d_mean_of.bnd := bnd_0 rfl fun _ _ _ _ _ _ us hl => match us, hl with | [_, _, _], _ => rfl
theorem bn_d_peak_of : d_peak_of.bnd := bnd_0 rfl fun _ _ _ _ _ _ us hl => match us, hl with | [_, _, _], _ => rfl
theorem bn_d_heap_sizes : d_heap_sizes.bnd := bnd_0 rfl fun _ _ _ _ _ _ us hl => match us, hl with | [_, _], _ => rfl
theorem bn_d_most_looks : d_most_looks.bnd := bnd_0 rfl fun _ _ _ _ _ _ us hl => match us, hl with | [_, _, _], _ => rfl
theorem bn_d_check_draw : d_check_draw.bnd := bnd_0 rfl fun _ _ _ _ _ _ us hl => match us, hl with | [_, _, _], _ => rfl
theorem bn_d_chance_found : d_chance_found.bnd := bnd_0 rfl fun _ _ _ _ _ _ us hl => match us, hl with | [_, _, _], _ => rfl
theorem bn_d_least_looked : d_least_looked.bnd := bnd_0 rfl fun _ _ _ _ _ _ us hl => match us, hl with | [_, _, _], _ => rfl
theorem bn_d_mean_found : d_mean_found.bnd := bnd_0 rfl fun _ _ _ _ _ _ us hl => match us, hl with | [_, _, _], _ => rfl
theorem bn_d_most_likely_found : d_most_likely_found.bnd := bnd_0 rfl fun _ _ _ _ _ _ us hl => match us, hl with | [_, _, _], _ => rfl
theorem bn_d_pooled : d_pooled.bnd := bnd_0 rfl fun _ _ _ _ _ _ us hl => match us, hl with | [_, _, _], _ => rfl
theorem bn_d__law_numbers : d__law_numbers.bnd := bnd_0 rfl fun _ _ _ _ _ _ us hl => match us, hl with | [_], _ => rfl
theorem bn_d__law_draw : d__law_draw.bnd := bnd_0 rfl fun _ _ _ _ _ _ us hl => match us, hl with | [_, _, _], _ => rfl
theorem bn_d__law_take : d__law_take.bnd := bnd_0 rfl fun _ _ _ _ _ _ us hl => match us, hl with | [_, _, _], _ => rfl
theorem bn_d__law_pick : d__law_pick.bnd := bnd_0 rfl fun _ _ _ _ _ _ us hl => match us, hl with | [_, _, _], _ => rfl
theorem bn_d__law_gcd : d__law_gcd.bnd := bnd_0 rfl fun _ _ _ _ _ _ us hl => match us, hl with | [_, _], _ => rfl
theorem bn_d__law_sets : d__law_sets.bnd := bnd_0 rfl fun _ _ _ _ _ _ us hl => match us, hl with | [_], _ => rfl
theorem bn_d__law_red : d__law_red.bnd := bnd_0 rfl fun _ _ _ _ _ _ us hl => match us, hl with | [_, _], _ => rfl
theorem bn_d__law_less : d__law_less.bnd := bnd_0 rfl fun _ _ _ _ _ _ us hl => match us, hl with | [_, _], _ => rfl
theorem bn_d__law_figure : d__law_figure.bnd := bnd_0 rfl fun _ _ _ _ _ _ us hl => match us, hl with | [_, _, _], _ => rfl
theorem bn_d_law : d_law.bnd := bnd_0 rfl fun _ _ _ _ _ _ us hl => match us, hl with | [_], _ => rfl
def ds0 : List Fd := [d_draws_with, d_counts, d_is_share, d_is_chance, d_is_enough, d_is_least_looked, d_is_mean, d_is_peak, d_better_of, d_behind_heap, d_is_most_looks, d_is_integer, d_is_within, d_is_sequence, d_need, d_need_integer, d_need_sequence, d_need_fraction, d_fraction, d_check_slips, d_check_part, d_check_few, d_check_size, d_check_sure, d_meet_part, d_missed, d_found_chance, d_looks_for, d_mean_of, d_peak_of]
def ds1 : List Fd := [d_heap_sizes, d_most_looks, d_check_draw, d_chance_found, d_least_looked, d_mean_found, d_most_likely_found, d_pooled, d__law_numbers, d__law_draw, d__law_take, d__law_pick, d__law_gcd, d__law_sets, d__law_red, d__law_less, d__law_figure, d_law]
def tb : Tb := ⟨ds0 ++ ds1, [("MILLION", .int (1000000)), ("MOST_SLIPS", .int (200)), ("MOST_POOLED", .int (3))], [("comb", "math.comb"), ("gcd", "math.gcd")], [], 100000, 60⟩
theorem sc0 : ∀ d ∈ ds0, FnScope d.N d.ps (defScope d.st) := by
  unfold ds0
  simp only [List.forall_mem_cons]
  exact ⟨sc_d_draws_with, sc_d_counts, sc_d_is_share, sc_d_is_chance, sc_d_is_enough, sc_d_is_least_looked, sc_d_is_mean, sc_d_is_peak, sc_d_better_of, sc_d_behind_heap, sc_d_is_most_looks, sc_d_is_integer, sc_d_is_within, sc_d_is_sequence, sc_d_need, sc_d_need_integer, sc_d_need_sequence, sc_d_need_fraction, sc_d_fraction, sc_d_check_slips, sc_d_check_part, sc_d_check_few, sc_d_check_size, sc_d_check_sure, sc_d_meet_part, sc_d_missed, sc_d_found_chance, sc_d_looks_for, sc_d_mean_of, sc_d_peak_of, fun _ h => nomatch h⟩
theorem sc1 : ∀ d ∈ ds1, FnScope d.N d.ps (defScope d.st) := by
  unfold ds1
  simp only [List.forall_mem_cons]
  exact ⟨sc_d_heap_sizes, sc_d_most_looks, sc_d_check_draw, sc_d_chance_found, sc_d_least_looked, sc_d_mean_found, sc_d_most_likely_found, sc_d_pooled, sc_d__law_numbers, sc_d__law_draw, sc_d__law_take, sc_d__law_pick, sc_d__law_gcd, sc_d__law_sets, sc_d__law_red, sc_d__law_less, sc_d__law_figure, sc_d_law, fun _ h => nomatch h⟩
theorem sc_all : ∀ d ∈ tb.ds, FnScope d.N d.ps (defScope d.st) := fun d h => by
  have h : d ∈ ds0 ++ ds1 := h
  simp only [List.mem_append] at h
  rcases h with h | h
  · exact sc0 d h
  · exact sc1 d h
theorem bnd0 : ∀ d ∈ ds0, d.bnd := by
  unfold ds0
  simp only [List.forall_mem_cons]
  exact ⟨bn_d_draws_with, bn_d_counts, bn_d_is_share, bn_d_is_chance, bn_d_is_enough, bn_d_is_least_looked, bn_d_is_mean, bn_d_is_peak, bn_d_better_of, bn_d_behind_heap, bn_d_is_most_looks, bn_d_is_integer, bn_d_is_within, bn_d_is_sequence, bn_d_need, bn_d_need_integer, bn_d_need_sequence, bn_d_need_fraction, bn_d_fraction, bn_d_check_slips, bn_d_check_part, bn_d_check_few, bn_d_check_size, bn_d_check_sure, bn_d_meet_part, bn_d_missed, bn_d_found_chance, bn_d_looks_for, bn_d_mean_of, bn_d_peak_of, fun _ h => nomatch h⟩
theorem bnd1 : ∀ d ∈ ds1, d.bnd := by
  unfold ds1
  simp only [List.forall_mem_cons]
  exact ⟨bn_d_heap_sizes, bn_d_most_looks, bn_d_check_draw, bn_d_chance_found, bn_d_least_looked, bn_d_mean_found, bn_d_most_likely_found, bn_d_pooled, bn_d__law_numbers, bn_d__law_draw, bn_d__law_take, bn_d__law_pick, bn_d__law_gcd, bn_d__law_sets, bn_d__law_red, bn_d__law_less, bn_d__law_figure, bn_d_law, fun _ h => nomatch h⟩
theorem bnd_all : ∀ d ∈ tb.ds, d.bnd := fun d h => by
  have h : d ∈ ds0 ++ ds1 := h
  simp only [List.mem_append] at h
  rcases h with h | h
  · exact bnd0 d h
  · exact bnd1 d h
theorem tb_ok : tb.Ok := ⟨sc_all, bnd_all⟩
theorem find_law : tb.find ("law", none) = some d_law := by kernel_rfl
end Tw
set_option Elab.async false
set_option linter.all false
set_option maxRecDepth 100000
set_option maxHeartbeats 1000000
/-! The head's facts over what the module's names lead to, layer by layer. -/
namespace Ev
open PySem PySem.Spec PyProof.Rows PySem.Calls
def refsA (g : Addr → Option Obj) (a : Addr) : List Addr := match g a with
  | some o => He.refsD o
  | none => []
/-- those that are not in the set yet; the set is a number's bits -/
def newA : List Addr → Nat → List Addr × Nat
  | [], s => ([], s)
  | a :: r, s => match Nat.beq ((s >>> a) % 2) 1 with
    | true => newA r s
    | false => match newA r (s ||| (1 <<< a)) with
      | (l, s') => (a :: l, s')
def growL (g : Addr → Option Obj) : Nat → List Addr → Nat → List Addr
  | 0, _, _ => []
  | n + 1, fr, s => match newA (fr.flatMap (refsA g)) s with
    | (l, s') => l ++ growL g n l s'
def asN (g : Addr → Option Obj) (n : Nat) : List Addr := mainGlobals :: growL g n [mainGlobals] (1 <<< mainGlobals)
def frN (g : Addr → Option Obj) (n : Nat) : PySem.W.Frag := He.frG g (asN g n)
def obsNG (n : Nat) (fa : List He.Fa) (fn : List He.DefD) (ex : PySem.W.Frag → Bool) (g : Addr → Option Obj) : AlB := (He.obsD fa fn (frN g n), ex (frN g n))
def hookN (n : Nat) (fa : List He.Fa) (fn : List He.DefD) (ex : PySem.W.Frag → Bool) : PySem.W.Hook where
  α := AlB
  obs := fun s => obsNG n fa fn ex s.heap.get?
  val := fun _ => (He.valD fn, true)
  says := fun _ h => ∃ K : PySem.W.Frag, K.In h ∧ He.SaysD fa fn K ∧ ex K = true
  of := fun _ _ e => ⟨_, He.frG_in, congrArg (fun z : AlB => z.1) e, congrArg (fun z : AlB => z.2) e⟩
  keeps := fun _ _ _ ⟨K, hK, c⟩ k => ⟨K, PySem.W.Frag.In.keeps hK k, c⟩
theorem obsNG_eq {n : Nat} {fa : List He.Fa} {fn : List He.DefD} {ex : PySem.W.Frag → Bool} {g : Addr → Option Obj} {s : Shared} (h : ∀ a, g a = s.heap.get? a) : obsNG n fa fn ex g = (hookN n fa fn ex).obs s := by
  have e : g = s.heap.get? := funext h
  rw [e] <;> rfl
/-- parts of what is looked at -/
theorem map_of {α β : Type} {o : Option α} {f : α → β} {v : β} (h : o.map f = some v) : ∃ x, o = some x ∧ f x = v := by
  cases o with
  | none => cases h
  | some x => exact ⟨x, rfl, Option.some.inj h⟩
theorem map_at {α β : Type} {o : Option α} {f : α → β} {v : β} {x : α} (h : o.map f = some v) (e : o = some x) : f x = v := by
  rw [e] at h; exact Option.some.inj h
theorem obs_join {n : Nat} {fa : List He.Fa} {fn : List He.DefD} {ex : PySem.W.Frag → Bool} {g : Addr → Option Obj} (h1 : (fa.all fun f => f.ok (frN g n)) = true) (h2 : (fn.all fun d => d.ok (frN g n)) = true) (h3 : (fn.map fun d => He.fnW (frN g n) d.at_) = fn.map He.DefD.val) (h4 : ex (frN g n) = true) : obsNG n fa fn ex g = (He.valD fn, true) := by
  unfold obsNG He.obsD He.valD
  rw [h1, h2, h3, h4]; rfl
theorem all_cut {α : Type} {p : α → Bool} {l : List α} (k : Nat) (h1 : (l.take k).all p = true) (h2 : (l.drop k).all p = true) : l.all p = true := by
  rw [← List.take_append_drop k l, List.all_append, h1, h2]; rfl
end Ev
set_option Elab.async false
set_option linter.all false
set_option maxRecDepth 100000
set_option maxHeartbeats 0
namespace Tw
open PySem PySem.Spec PyProof.Rows Ev L2
abbrev R : PySem.W.OpenRow := PySem.W.OpenLaw.row PySem.Challenge.rw_turnwright_k68_checks_of_the_club_book
def fa : List He.Fa := tb.fa
def fn : List He.DefD := tb.fn
abbrev hk : PySem.W.Hook := hookN 6 fa fn tb.ex
def ob (s : PySem.W.SharedT) : AlB := obsNG 6 fa fn tb.ex (HandSHeadRun.getT s)
theorem ob_eq (s : PySem.W.SharedT) : ob s = hk.obs s.abs := obsNG_eq (HandSHeadRun.getT_eq s)
def lo0 : List Str := ["comb", "gcd", "draws_with", "counts", "is_share", "is_chance", "is_enough", "is_least_looked", "is_mean", "is_peak", "better_of", "behind_heap", "is_most_looks", "TurnError", "BadValue", "MILLION", "is_integer", "is_within", "is_sequence", "need", "need_integer", "need_sequence", "need_fraction", "fraction", "MOST_SLIPS", "MOST_POOLED", "check_slips", "check_part", "check_few", "check_size"]
def lo1 : List Str := ["check_sure", "meet_part", "missed", "found_chance", "looks_for", "mean_of", "peak_of", "heap_sizes", "most_looks", "check_draw", "chance_found", "least_looked", "mean_found", "most_likely_found", "pooled", "_law_numbers", "_law_draw", "_law_take", "_law_pick", "_law_gcd", "_law_sets", "_law_red", "_law_less", "_law_figure"]
def loose : List Str := lo0 ++ lo1
abbrev q : Program := PySem.W.view R.prog [0, 61]
noncomputable abbrev wh (w : World) := HandSHeadRun.wholeF (fun p => HandSHeadRun.stepQ (HandSHeadRun.denQ HandSHeadRun.tabQ) p w) HandSHeadRun.fenceQ 20000 R.prog
noncomputable abbrev sn (s : PySem.W.SharedT) := HandSHeadRun.seenQ q loose (PySem.importedModules R.prog.main.body) (fun s => PySem.W.xlAt q [] s && PySem.W.recOk R.toRowW.records s) s.abs
abbrev gd := PySem.W.openGood q loose
abbrev kk (s : PySem.W.SharedT) : PySem.W.Frag := frN (HandSHeadRun.getT s) 6
theorem rn_0 (w : World) : (wh w).map (fun x => (HandSHeadRun.looksF R.prog x.1.heap x.2.abs, (sn x.2).1, (sn x.2).2.1, (sn x.2).2.2.1, (sn x.2).2.2.2.1, (sn x.2).2.2.2.2.1, (sn x.2).2.2.2.2.2.1, (sn x.2).2.2.2.2.2.2.1, (sn x.2).2.2.2.2.2.2.2.1, (sn x.2).2.2.2.2.2.2.2.2, fa.all fun f => f.ok (kk x.2), fn.all fun d => d.ok (kk x.2), fn.map fun d => He.fnW (kk x.2) d.at_, tb.ex (kk x.2))) = some ((true, gd.1, gd.2.1, gd.2.2.1, gd.2.2.2.1, gd.2.2.2.2.1, gd.2.2.2.2.2.1, gd.2.2.2.2.2.2.1, gd.2.2.2.2.2.2.2.1, gd.2.2.2.2.2.2.2.2, true, true, fn.map He.DefD.val, true)) := by kernel_rfl
theorem run_top (w : World) : HandSHeadRun.RunEqI R (PySem.W.view R.prog [0, 61]) hk ob 20000 loose w := by
  obtain ⟨x, e, h0⟩ := map_of (rn_0 w)
  have aL : (HandSHeadRun.looksF R.prog x.1.heap x.2.abs) = true := (congrArg (fun z => z.1) h0)
  have aB : (fa.all fun f => f.ok (kk x.2)) = true := (congrArg (fun z => z.2.2.2.2.2.2.2.2.2.2.1) h0)
  have aC : (fn.all fun d => d.ok (kk x.2)) = true := (congrArg (fun z => z.2.2.2.2.2.2.2.2.2.2.2.1) h0)
  have aD : (fn.map fun d => He.fnW (kk x.2) d.at_) = fn.map He.DefD.val := (congrArg (fun z => z.2.2.2.2.2.2.2.2.2.2.2.2.1) h0)
  have aE : (tb.ex (kk x.2)) = true := (congrArg (fun z => z.2.2.2.2.2.2.2.2.2.2.2.2.2) h0)
  have aS0 : ((sn x.2).1) = gd.1 := (congrArg (fun z => z.2.1) h0)
  have aS1 : ((sn x.2).2.1) = gd.2.1 := (congrArg (fun z => z.2.2.1) h0)
  have aS2 : ((sn x.2).2.2.1) = gd.2.2.1 := (congrArg (fun z => z.2.2.2.1) h0)
  have aS3 : ((sn x.2).2.2.2.1) = gd.2.2.2.1 := (congrArg (fun z => z.2.2.2.2.1) h0)
  have aS4 : ((sn x.2).2.2.2.2.1) = gd.2.2.2.2.1 := (congrArg (fun z => z.2.2.2.2.2.1) h0)
  have aS5 : ((sn x.2).2.2.2.2.2.1) = gd.2.2.2.2.2.1 := (congrArg (fun z => z.2.2.2.2.2.2.1) h0)
  have aS6 : ((sn x.2).2.2.2.2.2.2.1) = gd.2.2.2.2.2.2.1 := (congrArg (fun z => z.2.2.2.2.2.2.2.1) h0)
  have aS7 : ((sn x.2).2.2.2.2.2.2.2.1) = gd.2.2.2.2.2.2.2.1 := (congrArg (fun z => z.2.2.2.2.2.2.2.2.1) h0)
  have aS8 : ((sn x.2).2.2.2.2.2.2.2.2) = gd.2.2.2.2.2.2.2.2 := (congrArg (fun z => z.2.2.2.2.2.2.2.2.2.1) h0)
  unfold HandSHeadRun.RunEqI
  show (wh w).map (fun x => (HandSHeadRun.looksF R.prog x.1.heap x.2.abs, sn x.2, ob x.2)) = some (true, gd, (He.valD fn, true))
  rw [e]
  exact congrArg some (Prod.ext aL (Prod.ext (Prod.ext aS0 (Prod.ext aS1 (Prod.ext aS2 (Prod.ext aS3 (Prod.ext aS4 (Prod.ext aS5 (Prod.ext aS6 (Prod.ext aS7 aS8)))))))) (obs_join aB aC aD aE)))
end Tw
set_option Elab.async false
set_option linter.all false
set_option maxRecDepth 100000
set_option maxHeartbeats 0
namespace Tw
open PySem Ev
def b_draws_with (r r1 : Pl → Fn) : SS := (sSeq (sRet (cBin .Mult (bV combL [(cK (kVar 1)), (cK (kVar 3))]) (bV combL [(cBin .Sub (cK (kVar 0)) (cK (kVar 1))), (cBin .Sub (cK (kVar 2)) (cK (kVar 3)))]))) sSkip)
theorem e_draws_with (r r1 : Pl → Fn) : d_draws_with.body tb (tb.gt r (some r1)) = b_draws_with r r1 := by kernel_rfl
def b_counts (r r1 : Pl → Fn) : SS := (sSeq (sRet (cComp [3] (iRng [(cBin .Add (bV minL [(cK (kVar 1)), (cK (kVar 2))]) (cP (pC (.int 1))))]) (.n 3) tYes (cCall (r (("draws_with" : Str), none)) [] [] [(aV (cK (kVar 0))), (aV (cK (kVar 1))), (aV (cK (kVar 2))), (aV (cK (kVar 3)))]))) sSkip)
theorem e_counts (r r1 : Pl → Fn) : d_counts.body tb (tb.gt r (some r1)) = b_counts r r1 := by kernel_rfl
def b_is_share (r r1 : Pl → Fn) : SS := (sSeq (sTgt (.t [(.n 3), (.n 4)]) (cK (kVar 0))) (sSeq (sRet (cAnd (cCmp .Gt (cK (kVar 4)) (cP (pC (.int 0)))) (cAnd (cCmp .Eq (bV gcdL [(cK (kVar 3)), (cK (kVar 4))]) (cP (pC (.int 1)))) (cCmp .Eq (cBin .Mult (cK (kVar 3)) (cK (kVar 2))) (cBin .Mult (cK (kVar 1)) (cK (kVar 4))))))) sSkip))
theorem e_is_share (r r1 : Pl → Fn) : d_is_share.body tb (tb.gt r (some r1)) = b_is_share r r1 := by kernel_rfl
def b_is_chance (r r1 : Pl → Fn) : SS := (sSeq (sAsg 4 (cCall (r (("counts" : Str), none)) [] [] [(aV (cK (kVar 0))), (aV (cK (kVar 1))), (aV (cK (kVar 2)))])) (sSeq (sRet (cCall (r (("is_share" : Str), none)) [] [] [(aV (cK (kVar 3))), (aV (bV (one sumD) [(cSl (cK (kVar 4)) (some (cP (pC (.int 1)))) none)])), (aV (bK sumD (kVar 4)))])) sSkip))
theorem e_is_chance (r r1 : Pl → Fn) : d_is_chance.body tb (tb.gt r (some r1)) = b_is_chance r r1 := by kernel_rfl
def b_is_enough (r r1 : Pl → Fn) : SS := (sSeq (sAsg 4 (bV combL [(cK (kVar 0)), (cK (kVar 2))])) (sSeq (sAsg 5 (cBin .Sub (cK (kVar 4)) (bV combL [(cBin .Sub (cK (kVar 0)) (cK (kVar 1))), (cK (kVar 2))]))) (sSeq (sRet (cCmp .GtE (cBin .Mult (cK (kVar 5)) (cK (kIdx (kVar 3) (pC (.int 1))))) (cBin .Mult (cK (kIdx (kVar 3) (pC (.int 0)))) (cK (kVar 4))))) sSkip)))
theorem e_is_enough (r r1 : Pl → Fn) : d_is_enough.body tb (tb.gt r (some r1)) = b_is_enough r r1 := by kernel_rfl
def b_is_least_looked (r r1 : Pl → Fn) : SS := (sSeq (sIf (tB (cCmp .Is (cK (kVar 3)) (cP (pC .non)))) (sSeq (sRet (cNot (cCall (r (("is_enough" : Str), none)) [] [] [(aV (cK (kVar 0))), (aV (cK (kVar 1))), (aV (cK (kVar 0))), (aV (cK (kVar 2)))]))) sSkip) sSkip) (sSeq (sIf (tOr (tB (cCmp .Lt (cK (kVar 3)) (cP (pC (.int 0))))) (tOr (tB (cCmp .Gt (cK (kVar 3)) (cK (kVar 0)))) (tNot (tV (cCall (r (("is_enough" : Str), none)) [] [] [(aV (cK (kVar 0))), (aV (cK (kVar 1))), (aV (cK (kVar 3))), (aV (cK (kVar 2)))]))))) (sSeq (sRet (cP (pC (.bl false)))) sSkip) sSkip) (sSeq (sRet (cOr (cCmp .Eq (cK (kVar 3)) (cP (pC (.int 0)))) (cNot (cCall (r (("is_enough" : Str), none)) [] [] [(aV (cK (kVar 0))), (aV (cK (kVar 1))), (aV (cBin .Sub (cK (kVar 3)) (cP (pC (.int 1))))), (aV (cK (kVar 2)))])))) sSkip)))
theorem e_is_least_looked (r r1 : Pl → Fn) : d_is_least_looked.body tb (tb.gt r (some r1)) = b_is_least_looked r r1 := by kernel_rfl
def b_is_mean (r r1 : Pl → Fn) : SS := (sSeq (sAsg 4 (cCall (r (("counts" : Str), none)) [] [] [(aV (cK (kVar 0))), (aV (cK (kVar 1))), (aV (cK (kVar 2)))])) (sSeq (sRet (cCall (r (("is_share" : Str), none)) [] [] [(aV (cK (kVar 3))), (aV (bV (one sumD) [(cComp [5, 6] (iEnum (cK (kVar 4))) (.t [(.n 5), (.n 6)]) tYes (cBin .Mult (cK (kVar 5)) (cK (kVar 6))))])), (aV (bK sumD (kVar 4)))])) sSkip))
theorem e_is_mean (r r1 : Pl → Fn) : d_is_mean.body tb (tb.gt r (some r1)) = b_is_mean r r1 := by kernel_rfl
def b_is_peak (r r1 : Pl → Fn) : SS := (sSeq (sAsg 4 (cCall (r (("counts" : Str), none)) [] [] [(aV (cK (kVar 0))), (aV (cK (kVar 1))), (aV (cK (kVar 2)))])) (sSeq (sRet (cCmp .Eq (mV "index" (cK (kVar 4)) [(bK maxD (kVar 4))]) (cK (kVar 3)))) sSkip))
theorem e_is_peak (r r1 : Pl → Fn) : d_is_peak.body tb (tb.gt r (some r1)) = b_is_peak r r1 := by kernel_rfl
def b_better_of (r r1 : Pl → Fn) : SS := (sSeq (sIf (tB (cCmp .Is (cK (kVar 0)) (cP (pC .non)))) (sSeq (sRetV 1) sSkip) sSkip) (sSeq (sIf (tB (cCmp .Is (cK (kVar 1)) (cP (pC .non)))) (sSeq (sRetV 0) sSkip) sSkip) (sSeq (sRet (bV maxL [(cK (kVar 0)), (cK (kVar 1))])) sSkip)))
theorem e_better_of (r r1 : Pl → Fn) : d_better_of.body tb (tb.gt r (some r1)) = b_better_of r r1 := by kernel_rfl
def l_behind_heap_0 (r r1 : Pl → Fn) : SS := (sSeq (sAsg 6 (cK (kIdx (kVar 0) (pBin .Sub (pOf (kVar 3)) (pOf (kVar 5)))))) (sSeq (sIf (tB (cCmp .IsNot (cK (kVar 6)) (cP (pC .non)))) (sSeq (sAsg 4 (cCall (r (("better_of" : Str), none)) [] [] [(aV (cK (kVar 4))), (aV (cBin .Add (cBin .Add (cK (kVar 6)) (cP (pC (.int 1)))) (cIf (tB (cCmp .Gt (cK (kVar 5)) (cP (pC (.int 0))))) (cK (kVar 1)) (cP (pC (.int 0))))))])) sSkip) sSkip) sSkip))
def l_behind_heap_1 (r r1 : Pl → Fn) : SS := (sSeq (sAsg 4 (cP (pC .non))) (sSeq (sFor (iRng [(cBin .Add (bV minL [(cK (kVar 3)), (cK (kVar 1))]) (cP (pC (.int 1))))]) (.n 5) (l_behind_heap_0 r r1)) (sSeq (sApp 2 (cK (kVar 4))) sSkip)))
def b_behind_heap (r r1 : Pl → Fn) : SS := (sSeq (sAsg 2 (cLst [])) (sSeq (sFor (iRng [(cP (pLen (kVar 0)))]) (.n 3) (l_behind_heap_1 r r1)) (sSeq (sRetV 2) sSkip)))
theorem e_behind_heap (r r1 : Pl → Fn) : d_behind_heap.body tb (tb.gt r (some r1)) = b_behind_heap r r1 := by kernel_rfl
def l_is_most_looks_0 (r r1 : Pl → Fn) : SS := (sSeq (sAsg 6 (bV minL [(cK (kVar 2)), (cK (kVar 5))])) (sSeq (sAsg 4 (cCall (r (("behind_heap" : Str), none)) [] [] [(aV (cK (kVar 4))), (aV (cK (kVar 6)))])) (sSeq (sAsg 5 (cBin .Sub (cK (kVar 5)) (cK (kVar 6)))) sSkip)))
def b_is_most_looks (r r1 : Pl → Fn) : SS := (sSeq (sAsg 4 (cBin .Add (cLst [(cP (pC (.int 0)))]) (cBin .Mult (cLst [(cP (pC .non))]) (cK (kVar 1))))) (sSeq (sAsg 5 (cK (kVar 0))) (sSeq (sWhile 100000 (tB (cCmp .Gt (cK (kVar 5)) (cP (pC (.int 0))))) (l_is_most_looks_0 r r1)) (sSeq (sRet (cCmp .Eq (cK (kIdx (kVar 4) (pOf (kVar 1)))) (cK (kVar 3)))) sSkip))))
theorem e_is_most_looks (r r1 : Pl → Fn) : d_is_most_looks.body tb (tb.gt r (some r1)) = b_is_most_looks r r1 := by kernel_rfl
def b_is_integer (r r1 : Pl → Fn) : SS := (sSeq (sRet (cAnd (bV (one (isTs ["int"])) [(cK (kVar 0))]) (cNot (bV (one (isTs ["bool"])) [(cK (kVar 0))])))) sSkip)
theorem e_is_integer (r r1 : Pl → Fn) : d_is_integer.body tb (tb.gt r (some r1)) = b_is_integer r r1 := by kernel_rfl
def b_is_within (r r1 : Pl → Fn) : SS := (sSeq (sIf (tNot (tV (cCall (r (("is_integer" : Str), none)) [] [] [(aV (cK (kVar 0)))]))) (sSeq (sRet (cP (pC (.bl false)))) sSkip) sSkip) (sSeq (sIf (tAnd (tB (cCmp .IsNot (cK (kVar 1)) (cP (pC .non)))) (tB (cCmp .Lt (cK (kVar 0)) (cK (kVar 1))))) (sSeq (sRet (cP (pC (.bl false)))) sSkip) sSkip) (sSeq (sRet (cOr (cCmp .Is (cK (kVar 2)) (cP (pC .non))) (cCmp .LtE (cK (kVar 0)) (cK (kVar 2))))) sSkip)))
theorem e_is_within (r r1 : Pl → Fn) : d_is_within.body tb (tb.gt r (some r1)) = b_is_within r r1 := by kernel_rfl
def b_is_sequence (r r1 : Pl → Fn) : SS := (sSeq (sRet (bV (one (isTs ["list", "tuple"])) [(cK (kVar 0))])) sSkip)
theorem e_is_sequence (r r1 : Pl → Fn) : d_is_sequence.body tb (tb.gt r (some r1)) = b_is_sequence r r1 := by kernel_rfl
def b_need (r r1 : Pl → Fn) : SS := (sSeq (sIf (tNot (tK (kVar 0))) (sSeq sFail sSkip) sSkip) sSkip)
theorem e_need (r r1 : Pl → Fn) : d_need.body tb (tb.gt r (some r1)) = b_need r r1 := by kernel_rfl
def b_need_integer (r r1 : Pl → Fn) : SS := (sSeq (sIf (tNot (tV (cCall (r (("is_within" : Str), none)) [] [] [(aV (cK (kVar 0))), (aV (cK (kVar 1))), (aV (cK (kVar 2)))]))) (sSeq sFail sSkip) sSkip) (sSeq (sRetV 0) sSkip))
theorem e_need_integer (r r1 : Pl → Fn) : d_need_integer.body tb (tb.gt r (some r1)) = b_need_integer r r1 := by kernel_rfl
def b_need_sequence (r r1 : Pl → Fn) : SS := (sSeq (sIf (tOr (tNot (tV (cCall (r (("is_sequence" : Str), none)) [] [] [(aV (cK (kVar 0)))]))) (tB (cCmp .Lt (cP (pLen (kVar 0))) (cK (kVar 1))))) (sSeq sFail sSkip) sSkip) (sSeq (sIf (tAnd (tB (cCmp .IsNot (cK (kVar 2)) (cP (pC .non)))) (tB (cCmp .Gt (cP (pLen (kVar 0))) (cK (kVar 2))))) (sSeq sFail sSkip) sSkip) (sSeq (sRet (bK tupD (kVar 0))) sSkip)))
theorem e_need_sequence (r r1 : Pl → Fn) : d_need_sequence.body tb (tb.gt r (some r1)) = b_need_sequence r r1 := by kernel_rfl
def b_need_fraction (r r1 : Pl → Fn) : SS := (sSeq (sAsg 3 (cCall (r (("need_sequence" : Str), none)) [] [] [(aV (cK (kVar 0))), (aV (cP (pC (.int 2)))), (aV (cP (pC (.int 2)))), (aV (cK (kVar 1)))])) (sSeq (sTgt (.t [(.n 4), (.n 5)]) (cK (kVar 3))) (sSeq (sIf (tOr (tNot (tV (cCall (r (("is_within" : Str), none)) [] [] [(aV (cK (kVar 4))), (aV (cNeg (cK (fun _ => some (.val (.int (1000000))))))), (aV (cK (fun _ => some (.val (.int (1000000))))))]))) (tNot (tV (cCall (r (("is_within" : Str), none)) [] [] [(aV (cK (kVar 5))), (aV (cP (pC (.int 1)))), (aV (cK (kVar 2)))])))) (sSeq sFail sSkip) sSkip) (sSeq (sIf (tB (cCmp .NotEq (bV gcdL [(cK (kVar 4)), (cK (kVar 5))]) (cP (pC (.int 1))))) (sSeq sFail sSkip) sSkip) (sSeq (sRetV 3) sSkip)))))
theorem e_need_fraction (r r1 : Pl → Fn) : d_need_fraction.body tb (tb.gt r (some r1)) = b_need_fraction r r1 := by kernel_rfl
def b_fraction (r r1 : Pl → Fn) : SS := (sSeq (sAsg 2 (bV gcdL [(cK (kVar 0)), (cK (kVar 1))])) (sSeq (sIf (tB (cCmp .Lt (cK (kVar 1)) (cP (pC (.int 0))))) (sSeq (sAsg 2 (cNeg (cK (kVar 2)))) sSkip) sSkip) (sSeq (sRet (cTup [(cBin .FloorDiv (cK (kVar 0)) (cK (kVar 2))), (cBin .FloorDiv (cK (kVar 1)) (cK (kVar 2)))])) sSkip)))
theorem e_fraction (r r1 : Pl → Fn) : d_fraction.body tb (tb.gt r (some r1)) = b_fraction r r1 := by kernel_rfl
def b_check_slips (r r1 : Pl → Fn) : SS := (sSeq (sRet (cCall (r (("need_integer" : Str), none)) [] [] [(aV (cK (kVar 0))), (aV (cP (pC (.int 1)))), (aV (cK (fun _ => some (.val (.int (200)))))), (aV (cK (kVar 1)))])) sSkip)
theorem e_check_slips (r r1 : Pl → Fn) : d_check_slips.body tb (tb.gt r (some r1)) = b_check_slips r r1 := by kernel_rfl
def b_check_part (r r1 : Pl → Fn) : SS := (sSeq (sRet (cCall (r (("need_integer" : Str), none)) [] [] [(aV (cK (kVar 0))), (aV (cP (pC (.int 0)))), (aV (cP (pC .non))), (aV (cK (kVar 1)))])) sSkip)
theorem e_check_part (r r1 : Pl → Fn) : d_check_part.body tb (tb.gt r (some r1)) = b_check_part r r1 := by kernel_rfl
def b_check_few (r r1 : Pl → Fn) : SS := (sSeq (sRet (cCall (r (("need_integer" : Str), none)) [] [] [(aV (cK (kVar 0))), (aV (cP (pC (.int 0)))), (aV (cK (fun _ => some (.val (.int (3)))))), (aV (cK (kVar 1)))])) sSkip)
theorem e_check_few (r r1 : Pl → Fn) : d_check_few.body tb (tb.gt r (some r1)) = b_check_few r r1 := by kernel_rfl
def b_check_size (r r1 : Pl → Fn) : SS := (sSeq (sRet (cCall (r (("need_integer" : Str), none)) [] [] [(aV (cK (kVar 0))), (aV (cP (pC (.int 1)))), (aV (cP (pC .non))), (aV (cK (kVar 1)))])) sSkip)
theorem e_check_size (r r1 : Pl → Fn) : d_check_size.body tb (tb.gt r (some r1)) = b_check_size r r1 := by kernel_rfl
def b_check_sure (r r1 : Pl → Fn) : SS := (sSeq (sAsg 2 (cCall (r (("need_fraction" : Str), none)) [] [1000000] [(aV (cK (kVar 0))), (aV (cK (kVar 1)))])) (sSeq (sDrop (cCall (r (("need" : Str), none)) [] [] [(aV (cCall (r (("is_within" : Str), none)) [] [] [(aV (cK (kIdx (kVar 2) (pC (.int 0))))), (aV (cP (pC (.int 0)))), (aV (cK (kIdx (kVar 2) (pC (.int 1)))))])), (aV (cK (kVar 1)))])) (sSeq (sRetV 2) sSkip)))
theorem e_check_sure (r r1 : Pl → Fn) : d_check_sure.body tb (tb.gt r (some r1)) = b_check_sure r r1 := by kernel_rfl
def b_meet_part (r r1 : Pl → Fn) : SS := (sSeq (sDrop (cCall (r (("need" : Str), none)) [] [] [(aV (cCmp .LtE (cK (kVar 1)) (cK (kVar 0)))), (aV (cK (kVar 2)))])) sSkip)
theorem e_meet_part (r r1 : Pl → Fn) : d_meet_part.body tb (tb.gt r (some r1)) = b_meet_part r r1 := by kernel_rfl
def l_missed_0 (r r1 : Pl → Fn) : SS := (sSeq (sAsg 3 (cBin .Mult (cK (kVar 3)) (bV maxL [(cP (pC (.int 0))), (cBin .Sub (cBin .Sub (cK (kVar 0)) (cK (kVar 1))) (cK (kVar 5)))]))) (sSeq (sAsg 4 (cBin .Mult (cK (kVar 4)) (cBin .Sub (cK (kVar 0)) (cK (kVar 5))))) sSkip))
def b_missed (r r1 : Pl → Fn) : SS := (sSeq (sAsg 3 (cP (pC (.int 1)))) (sSeq (sAsg 4 (cP (pC (.int 1)))) (sSeq (sFor (iRng [(cK (kVar 2))]) (.n 5) (l_missed_0 r r1)) (sSeq (sRet (cTup [(cK (kVar 3)), (cK (kVar 4))])) sSkip))))
theorem e_missed (r r1 : Pl → Fn) : d_missed.body tb (tb.gt r (some r1)) = b_missed r r1 := by kernel_rfl
def b_found_chance (r r1 : Pl → Fn) : SS := (sSeq (sTgt (.t [(.n 3), (.n 4)]) (cCall (r (("missed" : Str), none)) [] [] [(aV (cK (kVar 0))), (aV (cK (kVar 1))), (aV (cK (kVar 2)))])) (sSeq (sRet (cCall (r (("fraction" : Str), none)) [] [] [(aV (cBin .Sub (cK (kVar 4)) (cK (kVar 3)))), (aV (cK (kVar 4)))])) sSkip))
theorem e_found_chance (r r1 : Pl → Fn) : d_found_chance.body tb (tb.gt r (some r1)) = b_found_chance r r1 := by kernel_rfl
def l_looks_for_0 (r r1 : Pl → Fn) : SS := (sSeq (sIf (tB (cCmp .GtE (cBin .Mult (cBin .Sub (cK (kVar 4)) (cK (kVar 3))) (cK (kIdx (kVar 2) (pC (.int 1))))) (cBin .Mult (cK (kIdx (kVar 2) (pC (.int 0)))) (cK (kVar 4))))) (sSeq (sRetV 5) sSkip) sSkip) (sSeq (sAsg 3 (cBin .Mult (cK (kVar 3)) (bV maxL [(cP (pC (.int 0))), (cBin .Sub (cBin .Sub (cK (kVar 0)) (cK (kVar 1))) (cK (kVar 5)))]))) (sSeq (sAsg 4 (cBin .Mult (cK (kVar 4)) (bV maxL [(cP (pC (.int 1))), (cBin .Sub (cK (kVar 0)) (cK (kVar 5)))]))) sSkip)))
def b_looks_for (r r1 : Pl → Fn) : SS := (sSeq (sAsg 3 (cP (pC (.int 1)))) (sSeq (sAsg 4 (cP (pC (.int 1)))) (sSeq (sFor (iRng [(cBin .Add (cK (kVar 0)) (cP (pC (.int 1))))]) (.n 5) (l_looks_for_0 r r1)) (sSeq (sRet (cP (pC .non))) sSkip))))
theorem e_looks_for (r r1 : Pl → Fn) : d_looks_for.body tb (tb.gt r (some r1)) = b_looks_for r r1 := by kernel_rfl
def b_mean_of (r r1 : Pl → Fn) : SS := (sSeq (sRet (cCall (r (("fraction" : Str), none)) [] [] [(aV (cBin .Mult (cK (kVar 1)) (cK (kVar 2)))), (aV (cK (kVar 0)))])) sSkip)
theorem e_mean_of (r r1 : Pl → Fn) : d_mean_of.body tb (tb.gt r (some r1)) = b_mean_of r r1 := by kernel_rfl
def b_peak_of (r r1 : Pl → Fn) : SS := (sSeq (sRet (cBin .FloorDiv (cBin .Sub (cBin .Mult (cBin .Add (cK (kVar 1)) (cP (pC (.int 1)))) (cBin .Add (cK (kVar 2)) (cP (pC (.int 1))))) (cP (pC (.int 1)))) (cBin .Add (cK (kVar 0)) (cP (pC (.int 2)))))) sSkip)
theorem e_peak_of (r r1 : Pl → Fn) : d_peak_of.body tb (tb.gt r (some r1)) = b_peak_of r r1 := by kernel_rfl
def b_heap_sizes (r r1 : Pl → Fn) : SS := (sSeq (sAsg 2 (cBin .Mult (cLst [(cK (kVar 1))]) (cBin .FloorDiv (cK (kVar 0)) (cK (kVar 1))))) (sSeq (sAsg 3 (cBin .Sub (cK (kVar 0)) (cBin .Mult (cK (kVar 1)) (cP (pLen (kVar 2)))))) (sSeq (sIf (tB (cCmp .Gt (cK (kVar 3)) (cP (pC (.int 0))))) (sSeq (sApp 2 (cK (kVar 3))) sSkip) sSkip) (sSeq (sRetV 2) sSkip))))
theorem e_heap_sizes (r r1 : Pl → Fn) : d_heap_sizes.body tb (tb.gt r (some r1)) = b_heap_sizes r r1 := by kernel_rfl
def b_most_looks (r r1 : Pl → Fn) : SS := (sSeq (sAsg 3 (cCall (r (("heap_sizes" : Str), none)) [] [] [(aV (cK (kVar 0))), (aV (cK (kVar 2)))])) (sSeq (sRet (cBin .Add (cP (pLen (kVar 3))) (bV (one sumD) [(cSl (cK (kVar 3)) none (some (cK (kVar 1))))]))) sSkip))
theorem e_most_looks (r r1 : Pl → Fn) : d_most_looks.body tb (tb.gt r (some r1)) = b_most_looks r r1 := by kernel_rfl
def b_check_draw (r r1 : Pl → Fn) : SS := (sSeq (sDrop (cCall (r (("check_slips" : Str), none)) [] [] [(aV (cK (kVar 0))), (aV (cP (pC (.int 0))))])) (sSeq (sDrop (cCall (r (("check_part" : Str), none)) [] [] [(aV (cK (kVar 1))), (aV (cP (pC (.int 1))))])) (sSeq (sDrop (cCall (r (("check_part" : Str), none)) [] [] [(aV (cK (kVar 2))), (aV (cP (pC (.int 2))))])) (sSeq (sDrop (cCall (r (("meet_part" : Str), none)) [] [] [(aV (cK (kVar 0))), (aV (cK (kVar 1))), (aV (cP (pC (.int 1))))])) (sSeq (sDrop (cCall (r (("meet_part" : Str), none)) [] [] [(aV (cK (kVar 0))), (aV (cK (kVar 2))), (aV (cP (pC (.int 2))))])) sSkip)))))
theorem e_check_draw (r r1 : Pl → Fn) : d_check_draw.body tb (tb.gt r (some r1)) = b_check_draw r r1 := by kernel_rfl
def b_chance_found (r r1 : Pl → Fn) : SS := (sSeq (sDrop (cCall (r (("check_draw" : Str), none)) [] [] [(aV (cK (kVar 0))), (aV (cK (kVar 1))), (aV (cK (kVar 2)))])) (sSeq (sAsg 3 (cCall (r (("found_chance" : Str), none)) [] [] [(aV (cK (kVar 0))), (aV (cK (kVar 1))), (aV (cK (kVar 2)))])) (sSeq (sAssert (tV (cCall (r (("is_chance" : Str), none)) [] [] [(aV (cK (kVar 0))), (aV (cK (kVar 1))), (aV (cK (kVar 2))), (aV (cK (kVar 3)))]))) (sSeq (sRetV 3) sSkip))))
theorem e_chance_found (r r1 : Pl → Fn) : d_chance_found.body tb (tb.gt r (some r1)) = b_chance_found r r1 := by kernel_rfl
def b_least_looked (r r1 : Pl → Fn) : SS := (sSeq (sDrop (cCall (r (("check_slips" : Str), none)) [] [] [(aV (cK (kVar 0))), (aV (cP (pC (.int 0))))])) (sSeq (sDrop (cCall (r (("check_part" : Str), none)) [] [] [(aV (cK (kVar 1))), (aV (cP (pC (.int 1))))])) (sSeq (sAsg 3 (cCall (r (("check_sure" : Str), none)) [] [] [(aV (cK (kVar 2))), (aV (cP (pC (.int 2))))])) (sSeq (sDrop (cCall (r (("meet_part" : Str), none)) [] [] [(aV (cK (kVar 0))), (aV (cK (kVar 1))), (aV (cP (pC (.int 1))))])) (sSeq (sAsg 4 (cCall (r (("looks_for" : Str), none)) [] [] [(aV (cK (kVar 0))), (aV (cK (kVar 1))), (aV (cK (kVar 3)))])) (sSeq (sAssert (tV (cCall (r (("is_least_looked" : Str), none)) [] [] [(aV (cK (kVar 0))), (aV (cK (kVar 1))), (aV (cK (kVar 3))), (aV (cK (kVar 4)))]))) (sSeq (sRetV 4) sSkip)))))))
theorem e_least_looked (r r1 : Pl → Fn) : d_least_looked.body tb (tb.gt r (some r1)) = b_least_looked r r1 := by kernel_rfl
def b_mean_found (r r1 : Pl → Fn) : SS := (sSeq (sDrop (cCall (r (("check_draw" : Str), none)) [] [] [(aV (cK (kVar 0))), (aV (cK (kVar 1))), (aV (cK (kVar 2)))])) (sSeq (sAsg 3 (cCall (r (("mean_of" : Str), none)) [] [] [(aV (cK (kVar 0))), (aV (cK (kVar 1))), (aV (cK (kVar 2)))])) (sSeq (sAssert (tV (cCall (r (("is_mean" : Str), none)) [] [] [(aV (cK (kVar 0))), (aV (cK (kVar 1))), (aV (cK (kVar 2))), (aV (cK (kVar 3)))]))) (sSeq (sRetV 3) sSkip))))
theorem e_mean_found (r r1 : Pl → Fn) : d_mean_found.body tb (tb.gt r (some r1)) = b_mean_found r r1 := by kernel_rfl
def b_most_likely_found (r r1 : Pl → Fn) : SS := (sSeq (sDrop (cCall (r (("check_draw" : Str), none)) [] [] [(aV (cK (kVar 0))), (aV (cK (kVar 1))), (aV (cK (kVar 2)))])) (sSeq (sAsg 3 (cCall (r (("peak_of" : Str), none)) [] [] [(aV (cK (kVar 0))), (aV (cK (kVar 1))), (aV (cK (kVar 2)))])) (sSeq (sAssert (tV (cCall (r (("is_peak" : Str), none)) [] [] [(aV (cK (kVar 0))), (aV (cK (kVar 1))), (aV (cK (kVar 2))), (aV (cK (kVar 3)))]))) (sSeq (sRetV 3) sSkip))))
theorem e_most_likely_found (r r1 : Pl → Fn) : d_most_likely_found.body tb (tb.gt r (some r1)) = b_most_likely_found r r1 := by kernel_rfl
def b_pooled (r r1 : Pl → Fn) : SS := (sSeq (sDrop (cCall (r (("check_slips" : Str), none)) [] [] [(aV (cK (kVar 0))), (aV (cP (pC (.int 0))))])) (sSeq (sDrop (cCall (r (("check_few" : Str), none)) [] [] [(aV (cK (kVar 1))), (aV (cP (pC (.int 1))))])) (sSeq (sDrop (cCall (r (("check_size" : Str), none)) [] [] [(aV (cK (kVar 2))), (aV (cP (pC (.int 2))))])) (sSeq (sDrop (cCall (r (("meet_part" : Str), none)) [] [] [(aV (cK (kVar 0))), (aV (cK (kVar 1))), (aV (cP (pC (.int 1))))])) (sSeq (sDrop (cCall (r (("meet_part" : Str), none)) [] [] [(aV (cK (kVar 0))), (aV (cK (kVar 2))), (aV (cP (pC (.int 2))))])) (sSeq (sAsg 3 (cCall (r (("most_looks" : Str), none)) [] [] [(aV (cK (kVar 0))), (aV (cK (kVar 1))), (aV (cK (kVar 2)))])) (sSeq (sAssert (tV (cCall (r (("is_most_looks" : Str), none)) [] [] [(aV (cK (kVar 0))), (aV (cK (kVar 1))), (aV (cK (kVar 2))), (aV (cK (kVar 3)))]))) (sSeq (sRetV 3) sSkip))))))))
theorem e_pooled (r r1 : Pl → Fn) : d_pooled.body tb (tb.gt r (some r1)) = b_pooled r r1 := by kernel_rfl
def l__law_numbers_0 (r r1 : Pl → Fn) : SS := (sSeq (sIf (tB (cCmp .Eq (cK (kVar 3)) (cP (pC (.int 0))))) (sSeq sBreak sSkip) sSkip) (sSeq (sApp 1 (cBin .Mod (bV intL [(cK (kVar 3))]) (cP (pC (.int 997))))) (sSeq (sAsg 3 (cBin .FloorDiv (cK (kVar 3)) (cP (pC (.int 997))))) sSkip)))
def l__law_numbers_1 (r r1 : Pl → Fn) : SS := (sSeq (sAsg 5 (cBin .Mod (bV intL [(cBin .Add (cBin .Add (cBin .Mult (cK (kVar 2)) (cP (pC (.int 48271)))) (cBin .Mult (cK (kVar 4)) (cP (pC (.int 69621))))) (cP (pC (.int 11))))]) (cP (pC (.int 2147483647))))) (sSeq (sApp 1 (cBin .Mod (bV intL [(cBin .Add (cBin .Mult (cK (kVar 5)) (cP (pC (.int 16807)))) (cK (kVar 4)))]) (cP (pC (.int 2147483629))))) sSkip))
def l__law_numbers_2 (r r1 : Pl → Fn) : SS := (sSeq (sIf (tB (cCmp .GtE (cK (kVar 2)) (cBin .Pow (cP (pC (.int 10))) (cP (pC (.int 18)))))) (sSeq (sAsg 3 (cK (kVar 2))) (sSeq (sFor (iRng [(cP (pC (.int 60)))]) (.n 4) (l__law_numbers_0 r r1)) sSkip)) (sSeq (sFor (iRng [(cP (pC (.int 4)))]) (.n 4) (l__law_numbers_1 r r1)) sSkip)) sSkip)
def b__law_numbers (r r1 : Pl → Fn) : SS := (sSeq (sAsg 1 (cLst [])) (sSeq (sFor (iV (cSl (cK (kVar 0)) none (some (cP (pC (.int 63)))))) (.n 2) (l__law_numbers_2 r r1)) (sSeq (sIf (tB (cCmp .Eq (cP (pLen (kVar 1))) (cP (pC (.int 0))))) (sSeq (sApp 1 (cP (pC (.int 0)))) sSkip) sSkip) (sSeq (sRetV 1) sSkip))))
theorem e__law_numbers (r r1 : Pl → Fn) : d__law_numbers.body tb (tb.gt r (some r1)) = b__law_numbers r r1 := by kernel_rfl
def b__law_draw (r r1 : Pl → Fn) : SS := (sSeq (sIf (tB (cCmp .Lt (cK (kVar 1)) (cP (pLen (kVar 0))))) (sSeq (sRet (cBin .Mod (bV intL [(cK (kIdx (kVar 0) (pOf (kVar 1))))]) (cK (kVar 2)))) sSkip) sSkip) (sSeq (sAsg 3 (cBin .Mod (bV intL [(cBin .Add (cBin .Add (cBin .Mult (cIxV 0 (cBin .Mod (bV intL [(cK (kVar 1))]) (cP (pLen (kVar 0))))) (cP (pC (.int 40692)))) (cBin .Mult (cK (kVar 1)) (cP (pC (.int 7919))))) (cP (pC (.int 3))))]) (cP (pC (.int 2147483399))))) (sSeq (sRet (cBin .Mod (bV intL [(cBin .Mod (bV intL [(cBin .Add (cBin .Mult (cK (kVar 3)) (cP (pC (.int 48271)))) (cK (kVar 1)))]) (cP (pC (.int 2147483647))))]) (cK (kVar 2)))) sSkip)))
theorem e__law_draw (r r1 : Pl → Fn) : d__law_draw.body tb (tb.gt r (some r1)) = b__law_draw r r1 := by kernel_rfl
def b__law_take (r r1 : Pl → Fn) : SS := (sSeq (sIdx (kVar 1) (pC (.int 0)) (cBin .Add (cK (kIdx (kVar 1) (pC (.int 0)))) (cP (pC (.int 1))))) (sSeq (sRet (cCall (r (("_law_draw" : Str), none)) [] [] [(aV (cK (kVar 0))), (aV (cBin .Sub (cK (kIdx (kVar 1) (pC (.int 0)))) (cP (pC (.int 1))))), (aV (cK (kVar 2)))])) sSkip))
theorem e__law_take (r r1 : Pl → Fn) : d__law_take.body tb (tb.gt r (some r1)) = b__law_take r r1 := by kernel_rfl
def b__law_pick (r r1 : Pl → Fn) : SS := (sSeq (sRet (cIxV 2 (cCall (r (("_law_take" : Str), none)) [1] [] [(aV (cK (kVar 0))), (aL 1), (aV (cP (pLen (kVar 2))))]))) sSkip)
theorem e__law_pick (r r1 : Pl → Fn) : d__law_pick.body tb (tb.gt r (some r1)) = b__law_pick r r1 := by kernel_rfl
def l__law_gcd_0 (r r1 : Pl → Fn) : SS := (sSeq (sIf (tB (cCmp .Eq (cK (kVar 3)) (cP (pC (.int 0))))) (sSeq sBreak sSkip) sSkip) (sSeq (sAsg 5 (cBin .Mod (bV intL [(cK (kVar 2))]) (cK (kVar 3)))) (sSeq (sAsg 2 (cK (kVar 3))) (sSeq (sAsg 3 (cK (kVar 5))) sSkip))))
def b__law_gcd (r r1 : Pl → Fn) : SS := (sSeq (sAsg 2 (cIf (tB (cCmp .GtE (cK (kVar 0)) (cP (pC (.int 0))))) (cK (kVar 0)) (cNeg (cK (kVar 0))))) (sSeq (sAsg 3 (cIf (tB (cCmp .GtE (cK (kVar 1)) (cP (pC (.int 0))))) (cK (kVar 1)) (cNeg (cK (kVar 1))))) (sSeq (sFor (iRng [(cP (pC (.int 20000)))]) (.n 4) (l__law_gcd_0 r r1)) (sSeq (sRetV 2) sSkip))))
theorem e__law_gcd (r r1 : Pl → Fn) : d__law_gcd.body tb (tb.gt r (some r1)) = b__law_gcd r r1 := by kernel_rfl
def l__law_sets_0 (r r1 : Pl → Fn) : SS := (sSeq (sAsg 1 (cBin .Add (cK (kVar 1)) (cComp [3] (iV (cK (kVar 1))) (.n 3) tYes (cBin .Add (cK (kVar 3)) (cLst [(cK (kVar 2))]))))) sSkip)
def b__law_sets (r r1 : Pl → Fn) : SS := (sSeq (sAsg 1 (cLst [(cLst [])])) (sSeq (sFor (iV (cK (kVar 0))) (.n 2) (l__law_sets_0 r r1)) (sSeq (sRetV 1) sSkip)))
theorem e__law_sets (r r1 : Pl → Fn) : d__law_sets.body tb (tb.gt r (some r1)) = b__law_sets r r1 := by kernel_rfl
def b__law_red (r r1 : Pl → Fn) : SS := (sSeq (sIf (tB (cCmp .Lt (cK (kVar 1)) (cP (pC (.int 0))))) (sSeq (sRet (cCall (r (("_law_red" : Str), none)) [] [] [(aV (cNeg (cK (kVar 0)))), (aV (cNeg (cK (kVar 1))))])) sSkip) sSkip) (sSeq (sAsg 2 (cCall (r (("_law_gcd" : Str), none)) [] [] [(aV (cK (kVar 0))), (aV (cK (kVar 1)))])) (sSeq (sIf (tB (cCmp .Eq (cK (kVar 2)) (cP (pC (.int 0))))) (sSeq (sRet (cTup [(cP (pC (.int 0))), (cP (pC (.int 1)))])) sSkip) sSkip) (sSeq (sRet (cTup [(cBin .FloorDiv (cK (kVar 0)) (cK (kVar 2))), (cBin .FloorDiv (cK (kVar 1)) (cK (kVar 2)))])) sSkip))))
theorem e__law_red (r r1 : Pl → Fn) : d__law_red.body tb (tb.gt r (some r1)) = b__law_red r r1 := by kernel_rfl
def b__law_less (r r1 : Pl → Fn) : SS := (sSeq (sRet (cCmp .Lt (cBin .Mult (cK (kIdx (kVar 0) (pC (.int 0)))) (cK (kIdx (kVar 1) (pC (.int 1))))) (cBin .Mult (cK (kIdx (kVar 1) (pC (.int 0)))) (cK (kIdx (kVar 0) (pC (.int 1))))))) sSkip)
theorem e__law_less (r r1 : Pl → Fn) : d__law_less.body tb (tb.gt r (some r1)) = b__law_less r r1 := by kernel_rfl
def l__law_figure_0 (r r1 : Pl → Fn) : SS := (sSeq (sAsg 6 (cCall (r (("_law_pick" : Str), none)) [1] [] [(aV (cK (kVar 0))), (aL 1), (aV (cK (kVar 3)))])) (sSeq (sApp 5 (cK (kVar 6))) (sSeq (sAsg 3 (cComp [7] (iV (cK (kVar 3))) (.n 7) (tB (cCmp .NotEq (cK (kVar 7)) (cK (kVar 6)))) (cK (kVar 7)))) sSkip)))
def b__law_figure (r r1 : Pl → Fn) : SS := (sSeq (sAsg 3 (cComp [4] (iRng [(cK (kVar 2))]) (.n 4) tYes (cK (kVar 4)))) (sSeq (sAsg 5 (cLst [])) (sSeq (sFor (iRng [(cK (kVar 2))]) (.n 4) (l__law_figure_0 r r1)) (sSeq (sRet (bK tupD (kVar 5))) sSkip))))
theorem e__law_figure (r r1 : Pl → Fn) : d__law_figure.body tb (tb.gt r (some r1)) = b__law_figure r r1 := by kernel_rfl
def l_law_0 (r r1 : Pl → Fn) : SS := (sSeq (sIf (tB (cCmp .Eq (cP (pLen (kVar 10))) (cK (kVar 17)))) (sSeq (sAsg 22 (cBin .Add (cP (pLen (kVar 19))) (bV (one sumD) [(cComp [23] (iV (cK (kVar 19))) (.n 23) (tB (cCmp .Gt (bV (one lenD) [(cComp [7] (iV (cK (kVar 23))) (.n 7) (tB (cInK false (pOf (kVar 7)) (kVar 10))) (cK (kVar 7)))]) (cP (pC (.int 0))))) (cP (pLen (kVar 23))))]))) (sSeq (sAsg 21 (bV maxL [(cK (kVar 21)), (cK (kVar 22))])) sSkip)) sSkip) sSkip)
def l_law_1 (r r1 : Pl → Fn) : SS := (sSeq (sApp 19 (cComp [20] (iRng [(cK (kVar 7)), (bV minL [(cK (kVar 3)), (cBin .Add (cK (kVar 7)) (cK (kVar 18)))])]) (.n 20) tYes (cK (kVar 20)))) sSkip)
def l_law_2 (r r1 : Pl → Fn) : SS := (sSeq (sAsg 19 (cLst [])) (sSeq (sFor (iRngC [(cP (pC (.int 0))), (cK (kVar 3)), (cK (kVar 18))]) (.n 7) (l_law_1 r r1)) (sSeq (sAsg 21 (cP (pC (.int 0)))) (sSeq (sFor (iV (cK (kVar 6))) (.n 10) (l_law_0 r r1)) (sSeq (sIf (tB (cCmp .NotEq (cCall (r (("pooled" : Str), none)) [] [] [(aV (cK (kVar 3))), (aV (cK (kVar 17))), (aV (cK (kVar 18)))]) (cK (kVar 21)))) (sSeq (sRet (cP (pC (.bl false)))) sSkip) sSkip) sSkip)))))
def l_law_3 (r r1 : Pl → Fn) : SS := (sSeq (sAsg 15 (cCall (r (("_law_red" : Str), none)) [] [] [(aV (cK (kVar 7))), (aV (cK (kVar 3)))])) (sSeq (sAsg 16 (cComp [8] (iRng [(cBin .Add (cK (kVar 3)) (cP (pC (.int 1))))]) (.n 8) (tNot (tV (cCall (r (("_law_less" : Str), none)) [] [] [(aV (cCall (r (("chance_found" : Str), none)) [] [] [(aV (cK (kVar 3))), (aV (cK (kVar 4))), (aV (cK (kVar 8)))])), (aV (cK (kVar 15)))]))) (cK (kVar 8)))) (sSeq (sIf (tB (cCmp .NotEq (cCall (r (("least_looked" : Str), none)) [] [] [(aV (cK (kVar 3))), (aV (cK (kVar 4))), (aV (cK (kVar 15)))]) (cIf (tB (cCmp .Gt (cP (pLen (kVar 16))) (cP (pC (.int 0))))) (cK (kIdx (kVar 16) (pC (.int 0)))) (cP (pC .non))))) (sSeq (sRet (cP (pC (.bl false)))) sSkip) sSkip) sSkip)))
def l_law_4 (r r1 : Pl → Fn) : SS := (sSeq (sAsg 9 (cComp [10] (iV (cK (kVar 6))) (.n 10) (tB (cCmp .Eq (cP (pLen (kVar 10))) (cK (kVar 8)))) (cK (kVar 10)))) (sSeq (sAsg 11 (cComp [10] (iV (cK (kVar 9))) (.n 10) tYes (bV (one lenD) [(cComp [7] (iV (cK (kVar 10))) (.n 7) (tB (cInK false (pOf (kVar 7)) (kVar 5))) (cK (kVar 7)))]))) (sSeq (sIf (tOr (tB (cCmp .NotEq (cCall (r (("chance_found" : Str), none)) [] [] [(aV (cK (kVar 3))), (aV (cK (kVar 4))), (aV (cK (kVar 8)))]) (cCall (r (("_law_red" : Str), none)) [] [] [(aV (bV (one lenD) [(cComp [12] (iV (cK (kVar 11))) (.n 12) (tB (cCmp .Gt (cK (kVar 12)) (cP (pC (.int 0))))) (cK (kVar 12)))])), (aV (cP (pLen (kVar 9))))]))) (tB (cCmp .NotEq (cCall (r (("mean_found" : Str), none)) [] [] [(aV (cK (kVar 3))), (aV (cK (kVar 4))), (aV (cK (kVar 8)))]) (cCall (r (("_law_red" : Str), none)) [] [] [(aV (bK sumD (kVar 11))), (aV (cP (pLen (kVar 9))))])))) (sSeq (sRet (cP (pC (.bl false)))) sSkip) sSkip) (sSeq (sAsg 13 (cComp [14] (iRng [(cBin .Add (cK (kVar 3)) (cP (pC (.int 1))))]) (.n 14) tYes (bV (one lenD) [(cComp [12] (iV (cK (kVar 11))) (.n 12) (tB (cCmp .Eq (cK (kVar 12)) (cK (kVar 14)))) (cK (kVar 12)))]))) (sSeq (sIf (tB (cCmp .NotEq (cCall (r (("most_likely_found" : Str), none)) [] [] [(aV (cK (kVar 3))), (aV (cK (kVar 4))), (aV (cK (kVar 8)))]) (mV "index" (cK (kVar 13)) [(bK maxD (kVar 13))]))) (sSeq (sRet (cP (pC (.bl false)))) sSkip) sSkip) sSkip)))))
def b_law (r r1 : Pl → Fn) : SS := (sSeq (sAsg 1 (cCall (r (("_law_numbers" : Str), none)) [] [] [(aV (cK (kVar 0)))])) (sSeq (sAsg 2 (cLst [(cP (pC (.int 0)))])) (sSeq (sAsg 3 (cBin .Add (cP (pC (.int 1))) (cCall (r (("_law_take" : Str), none)) [1] [] [(aV (cK (kVar 1))), (aL 2), (aV (cP (pC (.int 9))))]))) (sSeq (sAsg 4 (cCall (r (("_law_take" : Str), none)) [1] [] [(aV (cK (kVar 1))), (aL 2), (aV (cBin .Add (cK (kVar 3)) (cP (pC (.int 1)))))])) (sSeq (sAsg 5 (cSl (cCall (r (("_law_figure" : Str), none)) [1] [] [(aV (cK (kVar 1))), (aL 2), (aV (cK (kVar 3)))]) none (some (cK (kVar 4))))) (sSeq (sAsg 6 (cCall (r (("_law_sets" : Str), none)) [] [] [(aV (cComp [7] (iRng [(cK (kVar 3))]) (.n 7) tYes (cK (kVar 7))))])) (sSeq (sFor (iRng [(cBin .Add (cK (kVar 3)) (cP (pC (.int 1))))]) (.n 8) (l_law_4 r r1)) (sSeq (sFor (iRng [(cBin .Add (cK (kVar 3)) (cP (pC (.int 1))))]) (.n 7) (l_law_3 r r1)) (sSeq (sAsg 17 (bV minL [(cK (kVar 4)), (cP (pC (.int 3)))])) (sSeq (sFor (iRng [(cP (pC (.int 1))), (cBin .Add (cK (kVar 3)) (cP (pC (.int 1))))]) (.n 18) (l_law_2 r r1)) (sSeq (sRet (cP (pC (.bl true)))) sSkip)))))))))))
theorem e_law (r r1 : Pl → Fn) : d_law.body tb (tb.gt r (some r1)) = b_law r r1 := by kernel_rfl
end Tw
set_option Elab.async false
set_option linter.all false
set_option maxRecDepth 100000
set_option maxHeartbeats 1000000
/-! Plain steps: what the combinators give, by rewriting. -/
namespace Ev
open PySem

theorem run_at {T : Tb} {k : Nat} {p : Pl} {d : Fd} (h : T.find p = some d) : run T (k + 2) p = runF (d.body T (T.gt (run T (k + 1)) (some (run T k)))) d.N.length d.ps.length d.mu := by
  show (match T.find p with | some d => _ | none => _) = _
  rw [h]
  rfl
@[simp] theorem x_cP (q : SP) (e : Env) : cP q e = match q e with | some x => some (.d x, e) | none => none := rfl
@[simp] theorem x_pC (x : D) (e : Env) : pC x e = some x := rfl
@[simp] theorem x_kVar (i : Nat) (e : Env) : kVar i e = match e.slot i with | some (.d x) => some (.val x) | some _ => some (.at i []) | none => none := rfl
@[simp] theorem x_slot (i : Nat) (e : Env) : e.slot i = match e[i]? with | some (some m) => some m | _ => none := rfl
@[simp] theorem x_cK (k : SK) (e : Env) : cK k e = match k e with
  | some (.val x) => some (.d x, e)
  | some (.at i p) => match e.at i p with
    | some m => some (.d m.fz, e.putAt i p (.d m.fz))
    | none => none
  | none => none := rfl
@[simp] theorem x_cBin (op : Operator) (a b : SE) (e : Env) : cBin op a b e = match a e with
  | some (x, e1) => match b e1 with
    | some (y, e2) => match binV op x.fz y.fz with | some z => some (z, e2) | none => none
    | none => none
  | none => none := rfl
@[simp] theorem x_cNeg (a : SE) (e : Env) : cNeg a e = match a e with
  | some (.d (.int x), e1) => some (.d (.int (-x)), e1)
  | _ => none := rfl
@[simp] theorem x_cCmp (op : CmpOp) (a b : SE) (e : Env) : cCmp op a b e = match a e with
  | some (x, e1) => match b e1 with
    | some (y, e2) => match cmpD op x.fz y.fz with | some z => some (.d (.bl z), e2) | none => none
    | none => none
  | none => none := rfl
@[simp] theorem x_cAnd (a b : SE) (e : Env) : cAnd a b e = match a e with
  | some (.d (.bl x), e1) => if x then b e1 else some (.d (.bl false), e1)
  | _ => none := rfl
@[simp] theorem x_cOr (a b : SE) (e : Env) : cOr a b e = match a e with
  | some (.d (.bl x), e1) => if x then some (.d (.bl true), e1) else b e1
  | _ => none := rfl
@[simp] theorem x_cNot (a : SE) (e : Env) : cNot a e = match a e with
  | some (.d (.bl x), e1) => some (.d (.bl (!x)), e1)
  | _ => none := rfl
@[simp] theorem x_cIf (t : ST) (a b : SE) (e : Env) : cIf t a b e = match t e with
  | some (x, e1) => if x then a e1 else b e1
  | none => none := rfl
@[simp] theorem x_evL0 (e : Env) : evL [] e = some ([], e) := rfl
@[simp] theorem x_evL1 (c : SE) (r : List SE) (e : Env) : evL (c :: r) e = match c e with
    | some (m, e1) => match evL r e1 with | some (ms, e2) => some (m :: ms, e2) | none => none
    | none => none := rfl
@[simp] theorem x_cTup (cs : List SE) (e : Env) : cTup cs e = match evL cs e with
  | some (ms, e1) => if ms.length ≤ line then some (.d (.tup (M.fzs ms)), e1) else none
  | none => none := rfl
@[simp] theorem x_cLst (cs : List SE) (e : Env) : cLst cs e = match evL cs e with
  | some (ms, e1) => if ms.length ≤ line then some (.lst ms, e1) else none
  | none => none := rfl
@[simp] theorem x_bK (f : D → Option M) (k : SK) (e : Env) : bK f k e = match k e with
  | some v => match v.read e with
    | some x => match f x with | some m => some (m, e) | none => none
    | none => none
  | none => none := rfl
@[simp] theorem x_bV (f : List D → Option M) (cs : List SE) (e : Env) : bV f cs e = match evL cs e with
  | some (ms, e1) => match f (M.fzs ms) with | some m => some (m, e1) | none => none
  | none => none := rfl
@[simp] theorem x_one (f : D → Option M) (x : D) : one f [x] = f x := rfl
@[simp] theorem x_tV (c : SE) (e : Env) : tV c e = match c e with
  | some (m, e1) => match truth m.fz with | some b => some (b, e1) | none => none
  | none => none := rfl
@[simp] theorem x_tB (c : SE) (e : Env) : tB c e = match c e with
  | some (.d (.bl b), e1) => some (b, e1)
  | _ => none := rfl
@[simp] theorem x_tK (k : SK) (e : Env) : tK k e = match k e with
  | some v => match v.read e with
    | some x => match truth x with | some b => some (b, e) | none => none
    | none => none
  | none => none := rfl
@[simp] theorem x_tAnd (a b : ST) (e : Env) : tAnd a b e = match a e with
  | some (x, e1) => if x then b e1 else some (false, e1)
  | none => none := rfl
@[simp] theorem x_tOr (a b : ST) (e : Env) : tOr a b e = match a e with
  | some (x, e1) => if x then some (true, e1) else b e1
  | none => none := rfl
@[simp] theorem x_tNot (a : ST) (e : Env) : tNot a e = match a e with
  | some (x, e1) => some (!x, e1)
  | none => none := rfl
@[simp] theorem x_tYes (e : Env) : tYes e = some (true, e) := rfl
@[simp] theorem x_aV (c : SE) (e : Env) : aV c e = match c e with | some (m, e1) => some (.m m, e1) | none => none := rfl
@[simp] theorem x_aL (i : Nat) (e : Env) : aL i e = match e.slot i with
  | some (.d x) => some (.m (.d x), e)
  | some _ => some (.lend i, e)
  | none => none := rfl
@[simp] theorem x_evA0 (e : Env) : evA [] e = some ([], e) := rfl
@[simp] theorem x_evA1 (a : SA) (r : List SA) (e : Env) : evA (a :: r) e = match a e with
    | some (v, e1) => match evA r e1 with | some (vs, e2) => some (v :: vs, e2) | none => none
    | none => none := rfl
@[simp] theorem x_takeA0 (e : Env) : takeA [] e = some ([], e) := rfl
@[simp] theorem x_takeAm (m : M) (r : List AV) (e : Env) : takeA (.m m :: r) e = match takeA r e with | some (ms, e1) => some (m :: ms, e1) | none => none := rfl
@[simp] theorem x_takeAl (i : Nat) (r : List AV) (e : Env) : takeA (.lend i :: r) e = match e.slot i with
    | some m => match takeA r (e.set i none) with | some (ms, e1) => some (m :: ms, e1) | none => none
    | none => none := rfl
@[simp] theorem x_back0 (avs : List AV) (os : List M) (e : Env) : backA avs [] os e = e := by cases os <;> rfl
@[simp] theorem x_back1 (avs : List AV) (j : Nat) (mu : List Nat) (o : M) (os : List M) (e : Env) : backA avs (j :: mu) (o :: os) e = match avs[j]? with
    | some (.lend i) => backA avs mu os (e.set i (some o))
    | _ => backA avs mu os e := rfl
@[simp] theorem x_cCall (r : Fn) (mu : List Nat) (dn : List Int) (as : List SA) (e : Env) : cCall r mu dn as e = match evA as e with
  | none => none
  | some (avs, e1) => match takeA avs e1 with
    | none => none
    | some (ms, e2) => match r (ms ++ dn.map fun i => .d (.int i)) with
      | some (m, os) => some (m, backA avs mu os e2)
      | none => none := rfl
@[simp] theorem x_sSkip (e : Env) : sSkip e = some (.nx e) := rfl
@[simp] theorem x_sFail (e : Env) : sFail e = none := rfl
@[simp] theorem x_sSeq (a b : SS) (e : Env) : sSeq a b e = match a e with
  | some (.nx e1) => b e1
  | r => r := rfl
@[simp] theorem x_sDrop (c : SE) (e : Env) : sDrop c e = match c e with | some (_, e1) => some (.nx e1) | none => none := rfl
@[simp] theorem x_sAsg (i : Nat) (c : SE) (e : Env) : sAsg i c e = match c e with | some (m, e1) => some (.nx (e1.set i (some m))) | none => none := rfl
@[simp] theorem x_sTgt (g : Tg) (c : SE) (e : Env) : sTgt g c e = match c e with
  | some (m, e1) => match g.set m.fz e1 with | some e2 => some (.nx e2) | none => none
  | none => none := rfl
@[simp] theorem x_sIf (t : ST) (a b : SS) (e : Env) : sIf t a b e = match t e with
  | some (x, e1) => if x then a e1 else b e1
  | none => none := rfl
@[simp] theorem x_sRet (c : SE) (e : Env) : sRet c e = match c e with | some (m, e1) => some (.rt m e1) | none => none := rfl
@[simp] theorem x_sRetN (e : Env) : sRetN e = some (.rt (.d .non) e) := rfl
@[simp] theorem x_sRetV (i : Nat) (e : Env) : sRetV i e = match e.slot i with | some m => some (.rt m (e.set i none)) | none => none := rfl
@[simp] theorem x_sAssert (t : ST) (e : Env) : sAssert t e = match t e with | some (true, e1) => some (.nx e1) | _ => none := rfl
@[simp] theorem x_fzd (x : D) : (M.d x).fz = x := by simp [M.fz]
@[simp] theorem x_fz0 : M.fzs [] = [] := by simp [M.fzs]
@[simp] theorem x_fz1 (x : M) (r : List M) : M.fzs (x :: r) = x.fz :: M.fzs r := by simp [M.fzs]
@[simp] theorem x_runF (f : SS) (n np : Nat) (mu : List Nat) (ms : List M) : runF f n np mu ms = if ms.length = np then
    match f (startE n ms) with
    | some (.nx e) => match takeO mu e with | some os => some (.d .non, os) | none => none
    | some (.rt m e) => match takeO mu e with | some os => some (m, os) | none => none
    | _ => none
  else none := rfl
@[simp] theorem x_takeO0 (e : Env) : takeO [] e = some [] := rfl
@[simp] theorem x_takeO1 (j : Nat) (mu : List Nat) (e : Env) : takeO (j :: mu) e = match e.slot j with
    | some m => match takeO mu (e.set j none) with | some ms => some (m :: ms) | none => none
    | none => none := rfl
@[simp] theorem x_start (n : Nat) (ms : List M) : startE n ms = ms.map some ++ List.replicate (n - ms.length) none := rfl
@[simp] theorem x_cmpLt (a b : Int) : cmpD .Lt (.int a) (.int b) = some (decide (a < b)) := rfl
@[simp] theorem x_cmpLe (a b : Int) : cmpD .LtE (.int a) (.int b) = some (decide (a ≤ b)) := rfl
@[simp] theorem x_cmpGt (a b : Int) : cmpD .Gt (.int a) (.int b) = some (decide (b < a)) := rfl
@[simp] theorem x_cmpGe (a b : Int) : cmpD .GtE (.int a) (.int b) = some (decide (b ≤ a)) := rfl
@[simp] theorem x_cmpIs (x : D) : cmpD .Is x .non = some (match x with | .non => true | _ => false) := rfl
@[simp] theorem x_cmpIsN (x : D) : cmpD .IsNot x .non = some (match x with | .non => false | _ => true) := rfl
end Ev
set_option Elab.async false
set_option linter.all false
set_option maxRecDepth 100000
set_option maxHeartbeats 1000000
/-! Whole numbers in rows: what the built-ins answer. -/
namespace Ev
open PySem PySem.W

/-- rows of whole numbers -/
abbrev rowI (xs : List Int) : List D := xs.map .int
theorem pys_i : ∀ xs : List Int, D.pys (xs.map .int) = some (xs.map .int)
  | [] => by simp [D.pys]
  | x :: r => by simp [D.pys, D.py, pys_i r]
theorem ofPys_i : ∀ xs : List Int, ofPys (xs.map .int) = xs.map .int
  | [] => by simp [ofPys]
  | x :: r => by simp [ofPys, ofPy, ofPys_i r]
theorem plain_i : ∀ xs : List Int, PyData.plainAll (xs.map .int) = true
  | [] => by simp [PyData.plainAll]
  | x :: r => by simp [PyData.plainAll, PyData.plain, plain_i r]
theorem depth_i : ∀ xs : List Int, PyData.depthAll (xs.map .int) = 0
  | [] => by simp [PyData.depthAll]
  | x :: r => by simp [PyData.depthAll, PyData.depth, depth_i r]
theorem okD_i (x : Int) : okD (.int x) = true := by simp [okD, PyData.plain, PyData.depth]
theorem okD_ti (xs : List Int) : okD (.tuple (xs.map .int)) = true := by simp [okD, PyData.plain, PyData.depth, plain_i, depth_i]
theorem okD_li (xs : List Int) : okD (.list (xs.map .int)) = true := by simp [okD, PyData.plain, PyData.depth, plain_i, depth_i]
theorem eqvAll_i : ∀ xs ys : List Int, PyData.eqvAll (xs.map .int) (ys.map .int) = decide (xs = ys)
  | [], [] => by simp [PyData.eqvAll]
  | [], y :: ys => by simp [PyData.eqvAll]
  | x :: xs, [] => by simp [PyData.eqvAll]
  | x :: xs, y :: ys => by
    simp only [List.map_cons, PyData.eqvAll, PyData.eqv, eqvAll_i xs ys]
    by_cases h : x = y <;> simp [h]
@[simp] theorem eqD_int (a b : Int) : eqD (.int a) (.int b) = some (decide (a = b)) := by
  simp [eqD, D.py, okD_i, PyData.eqv]
  by_cases h : a = b <;> simp [h]
theorem eqD_ti (xs ys : List Int) : eqD (.tup (xs.map .int)) (.tup (ys.map .int)) = some (decide (xs = ys)) := by
  simp [eqD, D.py, pys_i, okD_ti, PyData.eqv, eqvAll_i]
theorem eqD_li (xs ys : List Int) : eqD (.lst (xs.map .int)) (.lst (ys.map .int)) = some (decide (xs = ys)) := by
  simp [eqD, D.py, pys_i, okD_li, PyData.eqv, eqvAll_i]
@[simp] theorem cmp_eq (x y : D) : cmpD .Eq x y = eqD x y := rfl
@[simp] theorem cmp_ne (x y : D) : cmpD .NotEq x y = match eqD x y with | some b => some (!b) | none => none := rfl
theorem in_i (x : Int) (xs : List Int) : inD (.int x) (xs.map .int) = some (decide (x ∈ xs)) := by
  have h : ∀ ys : List Int, (ys.map PyData.int).all okD = true := fun ys => by
    induction ys with
    | nil => rfl
    | cons y r ih => simp [okD_i]
  simp only [inD, cmpAll, D.py, pys_i, okD_i, h, Bool.and_self, if_true, Option.some.injEq]
  induction xs with
  | nil => simp
  | cons y r ih =>
    simp only [List.map_cons, List.any_cons, PyData.eqv, ih, List.mem_cons]
    by_cases e : x = y
    · subst e; simp
    · have : (y == x) = false := by simpa using fun z => e z.symm
      simp [this, e]
theorem idx_i (x : Int) (xs : List Int) (hx : x ∈ xs) : idxD (.int x) (xs.map .int) = some (xs.idxOf x) := by
  have h : ∀ ys : List Int, (ys.map PyData.int).all okD = true := fun ys => by
    induction ys with
    | nil => rfl
    | cons y r ih => simp [okD_i]
  simp only [idxD, cmpAll, D.py, pys_i, okD_i, h, Bool.and_self, if_true]
  induction xs with
  | nil => simp at hx
  | cons y r ih =>
    simp only [List.map_cons, List.findIdx?_cons]
    by_cases e : y = x
    · subst e
      have e1 : PyData.eqv (.int y) (.int y) = true := by simp [PyData.eqv]
      simp [e1]
    · have e1 : PyData.eqv (.int y) (.int x) = false := by simp [PyData.eqv, e]
      have e2 : (y == x) = false := by simpa using e
      have hr : x ∈ r := by
        rcases List.mem_cons.mp hx with z | z
        · exact absurd z.symm e
        · exact z
      rw [e1, ih hr]
      simp [List.idxOf_cons, e2]
theorem cnt_i (x : Int) (xs : List Int) : cntD (.int x) (xs.map .int) = some (xs.count x) := by
  have h : ∀ ys : List Int, (ys.map PyData.int).all okD = true := fun ys => by
    induction ys with
    | nil => rfl
    | cons y r ih => simp [okD_i]
  simp only [cntD, cmpAll, D.py, pys_i, okD_i, h, Bool.and_self, if_true, Option.some.injEq]
  induction xs with
  | nil => simp
  | cons y r ih =>
    simp only [List.map_cons, List.countP_cons, ih, List.count_cons]
    by_cases e : y = x
    · subst e; simp [PyData.eqv]
    · simp [PyData.eqv, e]
theorem asInts_i (xs : List Int) : asInts (xs.map .int) = some xs := by
  induction xs with
  | nil => rfl
  | cons x r ih => simp [asInts, ih]
@[simp] theorem sum_ti (xs : List Int) : sumD (.tup (xs.map .int)) = some (.d (.int xs.sum)) := by simp [sumD, D.items, asInts_i]
@[simp] theorem sum_li (xs : List Int) : sumD (.lst (xs.map .int)) = some (.d (.int xs.sum)) := by simp [sumD, D.items, asInts_i]
@[simp] theorem tup_ti (xs : List D) : tupD (.tup xs) = some (.d (.tup xs)) := rfl
@[simp] theorem tup_li (xs : List D) : tupD (.lst xs) = some (.d (.tup xs)) := rfl
@[simp] theorem lst_ti (xs : List D) : lstD (.tup xs) = some (.lst (xs.map .d)) := rfl
@[simp] theorem lst_li (xs : List D) : lstD (.lst xs) = some (.lst (xs.map .d)) := rfl
theorem okAll_i (xs : List Int) : okAll (xs.map .int) = true := by
  simp only [okAll, List.all_eq_true, List.mem_map]
  rintro _ ⟨a, _, rfl⟩ _ ⟨b, _, rfl⟩
  simp [okLt, okD_i, W.alike]
theorem max_i (a : Int) (r : List Int) : maxD (.tup ((a :: r).map .int)) = some (.d (.int (r.foldl max a))) ∧ maxD (.lst ((a :: r).map .int)) = some (.d (.int (r.foldl max a))) := by
  have h := okAll_i (a :: r)
  have hp := pys_i (a :: r)
  simp only [List.map_cons] at h hp
  constructor <;>
  · simp only [maxD, D.items, List.map_cons, hp]
    rw [if_pos h, W.maxD_ints]
    simp [ofPy]
theorem min_i (a : Int) (r : List Int) : minD (.tup ((a :: r).map .int)) = some (.d (.int (r.foldl min a))) ∧ minD (.lst ((a :: r).map .int)) = some (.d (.int (r.foldl min a))) := by
  have h := okAll_i (a :: r)
  have hp := pys_i (a :: r)
  simp only [List.map_cons] at h hp
  constructor <;>
  · simp only [minD, D.items, List.map_cons, hp]
    rw [if_pos h, W.minD_ints]
    simp [ofPy]
/-- sorted: the same numbers, in order -/
theorem sort_i (xs : List Int) (hl : xs.length ≤ line) : ∃ ys : List Int, ys.Perm xs ∧ ys.Pairwise (· ≤ ·) ∧ sortD (.tup (xs.map .int)) = some (.lst ((ys.map D.int).map .d)) ∧ sortD (.lst (xs.map .int)) = some (.lst ((ys.map D.int).map .d)) := by
  have hle : ∀ a b : Int, W.dataLe false id (.int a) (.int b) = decide (a ≤ b) := fun a b => by
    have : W.dataLe false id (.int a) (.int b) = !W.dataLt (.int b) (.int a) := rfl
    rw [this, W.dataLt_int]
    by_cases h : b < a
    · simp [h]
    · simp [h, Int.not_lt.mp h]
  have hm : ((xs.map PyData.int).mergeSort (W.dataLe false id)) = ((xs.mergeSort (fun a b => decide (a ≤ b))).map PyData.int) := by
    rw [← List.map_mergeSort (r := fun a b => decide (a ≤ b)) (s := W.dataLe false id)]
    intro a _ b _
    exact (hle a b).symm
  have ok : srtOk (xs.map .int) = true := by
    simp only [srtOk, okAll_i, Bool.true_and, Bool.or_eq_true]
    right
    simp
  refine ⟨xs.mergeSort (fun a b => decide (a ≤ b)), List.mergeSort_perm _ _, ?_, ?_, ?_⟩
  · have := List.pairwise_mergeSort (le := fun a b : Int => decide (a ≤ b)) (fun a b c h1 h2 => by simp at *; omega) (fun a b => by simp; omega) xs
    simpa using this
  all_goals
    simp only [sortD, D.items, pys_i]
    rw [if_pos (by simp [ok, hl]), hm, ofPys_i]
theorem lt_ti (xs ys : List Int) (h : W.alikeAll (xs.map .int) (ys.map .int) = true) : cmpD .Lt (.tup (xs.map .int)) (.tup (ys.map .int)) = some (decide (xs < ys)) := by
  have e : cmpD .Lt (.tup (xs.map .int)) (.tup (ys.map .int)) = ltD (W.dataLt) (.tup (xs.map .int)) (.tup (ys.map .int)) := rfl
  rw [e]
  simp only [ltD, D.py, pys_i]
  have ok : okLt (.tuple (xs.map .int)) (.tuple (ys.map .int)) = true := by simp [okLt, okD_ti, W.alike, h]
  rw [if_pos ok, W.dataLt_tuple]
  exact congrArg some (W.dataLt_ints xs ys)
theorem alike_i : ∀ xs ys : List Int, W.alikeAll (xs.map .int) (ys.map .int) = true
  | [], ys => by simp [W.alikeAll]
  | x :: xs, [] => by simp [W.alikeAll]
  | x :: xs, y :: ys => by simp [W.alikeAll, W.alike, alike_i xs ys]
end Ev
set_option Elab.async false
set_option linter.all false
set_option maxRecDepth 100000
set_option maxHeartbeats 1000000
/-! Plain steps: containers, loops, comprehensions. -/
namespace Ev
open PySem

@[simp] theorem x_iV (c : SE) (e : Env) : iV c e = match c e with
  | some (m, e1) => match m.fz.items with | some xs => some (xs, e1) | none => none
  | none => none := rfl
@[simp] theorem x_iRng (cs : List SE) (e : Env) : iRng cs e = match evL cs e with
  | some (ms, e1) => match rangeL false (M.fzs ms) with | some xs => some (xs, e1) | none => none
  | none => none := rfl
@[simp] theorem x_iRngC (cs : List SE) (e : Env) : iRngC cs e = match evL cs e with
  | some (ms, e1) => match rangeC (M.fzs ms) with | some xs => some (xs, e1) | none => none
  | none => none := rfl
@[simp] theorem x_iEnum (c : SE) (e : Env) : iEnum c e = match c e with
  | some (m, e1) => match m.fz.items with | some xs => some (enumD xs, e1) | none => none
  | none => none := rfl
@[simp] theorem x_iZip (a b : SE) (e : Env) : iZip a b e = match a e with
  | some (x, e1) => match b e1 with
    | some (y, e2) => match zipOk x.fz y.fz with | some xs => some (xs, e2) | none => none
    | none => none
  | none => none := rfl
@[simp] theorem x_iRev (c : SE) (e : Env) : iRev c e = match c e with
  | some (m, e1) => match m.fz.items with | some xs => some (xs.reverse, e1) | none => none
  | none => none := rfl
@[simp] theorem x_it1 (xs : List D) : (D.tup xs).items = some xs := rfl
@[simp] theorem x_it2 (xs : List D) : (D.lst xs).items = some xs := rfl
@[simp] theorem x_it3 (xs : List D) : (D.frl xs).items = some xs := rfl
@[simp] theorem x_gn (i : Nat) (x : D) (e : Env) : (Tg.n i).set x e = some (e.set i (some (.d x))) := by simp [Tg.set]
@[simp] theorem x_gt (gs : List Tg) (xs : List D) (e : Env) : (Tg.t gs).set (.tup xs) e = Tg.sets gs xs e := by simp [Tg.set]
@[simp] theorem x_gs0 (e : Env) : Tg.sets [] [] e = some e := by simp [Tg.sets]
@[simp] theorem x_gs1 (g : Tg) (gs : List Tg) (x : D) (xs : List D) (e : Env) : Tg.sets (g :: gs) (x :: xs) e = match g.set x e with | some e1 => Tg.sets gs xs e1 | none => none := by simp only [Tg.sets] <;> (cases g.set x e <;> rfl)
@[simp] theorem x_kIdx (k : SK) (q : SP) (e : Env) : kIdx k q e = match k e with
  | some (.val x) => match q e with
    | some (.int i) => match x.ix i with | some y => some (.val y) | none => none
    | _ => none
  | some (.at i p) => match e.at i p with
    | some (.lst ms) => match q e with
      | some (.int n) => match L2.ixN ms.length n with | some j => kKid e i p j | none => none
      | _ => none
    | _ => none
  | none => none := rfl
@[simp] theorem x_kFld (k : SK) (f : Str) (e : Env) : kFld k f e = match k e with
  | some (.val (.obj _ ns xs)) => match fIx ns f with
    | some j => match xs[j]? with | some x => some (.val x) | none => none
    | none => none
  | some (.at i p) => match e.at i p with
    | some (.obj _ ns _) => match fIx ns f with | some j => kKid e i p j | none => none
    | _ => none
  | _ => none := rfl
@[simp] theorem x_pOf (k : SK) (e : Env) : pOf k e = match k e with | some (.val x) => some x | _ => none := rfl
@[simp] theorem x_pBin (op : Operator) (a b : SP) (e : Env) : pBin op a b e = match a e with
  | some (.int x) => match b e with
    | some (.int y) => match binI op x y with | some z => some (.int z) | none => none
    | _ => none
  | _ => none := rfl
@[simp] theorem x_pNeg (a : SP) (e : Env) : pNeg a e = match a e with | some (.int x) => some (.int (-x)) | _ => none := rfl
@[simp] theorem x_pLen (k : SK) (e : Env) : pLen k e = match k e with
  | some v => match v.len e with | some n => some (.int n) | none => none
  | none => none := rfl
@[simp] theorem x_lenv (x : D) (e : Env) : (PV.val x).len e = x.len := rfl
@[simp] theorem x_lena (i : Nat) (p : List Nat) (e : Env) : (PV.at i p).len e = match e.at i p with
    | some (.lst ms) => some ms.length
    | _ => none := rfl
@[simp] theorem x_len1 (xs : List D) : (D.tup xs).len = some (xs.length : Int) := rfl
@[simp] theorem x_len2 (xs : List D) : (D.lst xs).len = some (xs.length : Int) := rfl
@[simp] theorem x_len3 (xs : List D) : (D.frl xs).len = some (xs.length : Int) := rfl
@[simp] theorem x_rdv (x : D) (e : Env) : (PV.val x).read e = some x := rfl
@[simp] theorem x_rda (i : Nat) (p : List Nat) (e : Env) : (PV.at i p).read e = match e.at i p with
    | some (.lst ms) => match allD ms with | some xs => some (.lst xs) | none => none
    | _ => none := rfl
@[simp] theorem x_at (e : Env) (i : Nat) (p : List Nat) : e.at i p = match e.slot i with | some m => m.sub p | none => none := rfl
@[simp] theorem x_putAt (e : Env) (i : Nat) (p : List Nat) (s : M) : e.putAt i p s = match e.slot i with | some m => e.set i (some (m.put p s)) | none => e := rfl
@[simp] theorem x_sub0 (m : M) : m.sub [] = some m := by cases m <;> rfl
@[simp] theorem x_sub1 (m : M) (i : Nat) (p : List Nat) : m.sub (i :: p) = match m.kids[i]? with | some x => x.sub p | none => none := by cases m <;> rfl
@[simp] theorem x_put0 (m s : M) : m.put [] s = s := by cases m <;> rfl
@[simp] theorem x_put1 (m : M) (i : Nat) (p : List Nat) (s : M) : m.put (i :: p) s = match m.kids[i]? with | some x => m.wk (m.kids.set i (x.put p s)) | none => m := by cases m <;> rfl
@[simp] theorem x_kids1 (xs : List M) : (M.lst xs).kids = xs := rfl
@[simp] theorem x_kids2 (c : Str) (ns : List Str) (xs : List M) : (M.obj c ns xs).kids = xs := rfl
@[simp] theorem x_wk1 (xs ys : List M) : (M.lst xs).wk ys = .lst ys := rfl
@[simp] theorem x_wk2 (c : Str) (ns : List Str) (xs ys : List M) : (M.obj c ns xs).wk ys = .obj c ns ys := rfl
@[simp] theorem x_fzl (xs : List M) : (M.lst xs).fz = .lst (M.fzs xs) := by simp [M.fz]
@[simp] theorem x_fzo (c : Str) (ns : List Str) (xs : List M) : (M.obj c ns xs).fz = .obj c ns (M.fzs xs) := by simp [M.fz]
@[simp] theorem x_fzm (xs : List D) : M.fzs (xs.map M.d) = xs := M.fzs_d xs
@[simp] theorem x_fzm2 {α : Type} (f : α → D) (xs : List α) : M.fzs (xs.map (M.d ∘ f)) = xs.map f := by
  rw [← List.map_map]; exact M.fzs_d _
theorem line_nat : line = 16777216 := rfl
theorem line_int : (line : Int) = 16777216 := by rw [line_nat]; rfl
@[simp] theorem x_allD (xs : List D) : allD (xs.map M.d) = some xs := by
  induction xs with
  | nil => rfl
  | cons x r ih => simp [allD, ih]
@[simp] theorem x_allD2 {α : Type} (f : α → D) (xs : List α) : allD (xs.map (M.d ∘ f)) = some (xs.map f) := by
  rw [← List.map_map]; exact x_allD _
@[simp] theorem x_allD3 {α : Type} (f : α → D) (xs : List α) : allD (xs.map fun t => M.d (f t)) = some (xs.map f) := x_allD2 f xs
@[simp] theorem x_fzm3 {α : Type} (f : α → D) (xs : List α) : M.fzs (xs.map fun t => M.d (f t)) = xs.map f := x_fzm2 f xs
@[simp] theorem x_allD0 : allD [] = some [] := rfl
@[simp] theorem x_allD1 (x : D) (r : List M) : allD (.d x :: r) = match allD r with | some xs => some (x :: xs) | none => none := rfl
@[simp] theorem x_kKid (e : Env) (i : Nat) (p : List Nat) (j : Nat) : kKid e i p j = match e.at i (p ++ [j]) with
  | some (.d x) => some (.val x)
  | some _ => some (.at i (p ++ [j]))
  | none => none := rfl
@[simp] theorem x_ix1 (xs : List D) (i : Int) : (D.tup xs).ix i = L2.atI xs i := rfl
@[simp] theorem x_ix2 (xs : List D) (i : Int) : (D.lst xs).ix i = L2.atI xs i := rfl
@[simp] theorem x_ix3 (xs : List D) (i : Int) : (D.frl xs).ix i = L2.atI xs i := rfl
@[simp] theorem x_cIx (a b : SE) (e : Env) : cIx a b e = match a e with
  | some (x, e1) => match b e1 with
    | some (.d (.int i), e2) => match x.fz.ix i with | some y => some (.d y, e2) | none => none
    | _ => none
  | none => none := rfl
@[simp] theorem x_cIxV (i : Nat) (b : SE) (e : Env) : cIxV i b e = match e.slot i with
  | none => none
  | some _ => match b e with
    | some (.d (.int n), e1) => match e1.slot i with
      | some (.d x) => match x.ix n with | some y => some (.d y, e1) | none => none
      | some (.lst ms) => match L2.atI ms n with | some (.d y) => some (.d y, e1) | _ => none
      | _ => none
    | _ => none := rfl
@[simp] theorem x_cSl (a : SE) (lo hi : Option SE) (e : Env) : cSl a lo hi e = match a e with
  | some (x, e1) => match optI lo e1 with
    | some (l, e2) => match optI hi e2 with
      | some (h, e3) => match sliceV x.fz l h with | some m => some (m, e3) | none => none
      | none => none
    | none => none
  | none => none := rfl
@[simp] theorem x_optN (e : Env) : optI none e = some (none, e) := rfl
@[simp] theorem x_optS (c : SE) (e : Env) : optI (some c) e = match c e with | some (.d (.int i), e1) => some (some i, e1) | _ => none := rfl
@[simp] theorem x_cFld (a : SE) (f : Str) (e : Env) : cFld a f e = match a e with
  | some (x, e1) => match x.fz with
    | .obj _ ns xs => match fIx ns f with
      | some j => match xs[j]? with | some y => some (.d y, e1) | none => none
      | none => none
    | _ => none
  | none => none := rfl
@[simp] theorem x_mK (m : String) (k : SK) (qs : List SP) (e : Env) : mK m k qs e = match k e with
  | some v => match v.read e with
    | some x => match evP qs e with
      | some ys => match mthD m x ys with | some z => some (z, e) | none => none
      | none => none
    | none => none
  | none => none := rfl
@[simp] theorem x_evP0 (e : Env) : evP [] e = some [] := rfl
@[simp] theorem x_evP1 (q : SP) (r : List SP) (e : Env) : evP (q :: r) e = match q e with
    | some x => match evP r e with | some xs => some (x :: xs) | none => none
    | none => none := rfl
@[simp] theorem x_mix (x : D) (y : D) : mthD "index" x [y] = match x.items with | some xs => (match idxD y xs with | some j => some (.d (.int j)) | none => none) | none => none := by
  cases x <;> simp [mthD, D.items] <;> rfl
@[simp] theorem x_mcn (x : D) (y : D) : mthD "count" x [y] = match x.items with | some xs => (match cntD y xs with | some j => some (.d (.int j)) | none => none) | none => none := by
  cases x <;> simp [mthD, D.items] <;> rfl
@[simp] theorem x_sFor (it : SI) (g : Tg) (b : SS) (e : Env) : sFor it g b e = match it e with
  | some (xs, e1) => forL g b xs e1
  | none => none := rfl
@[simp] theorem x_sIdx (k : SK) (q : SP) (c : SE) (e : Env) : sIdx k q c e = match c e with
  | some (x, e1) => match k e1 with
    | some (.at i p) => match q e1 with
      | some (.int n) => match e1.at i p with
        | some m => match m.setI n x with | some m' => some (.nx (e1.putAt i p m')) | none => none
        | none => none
      | _ => none
    | _ => none
  | none => none := rfl
@[simp] theorem x_setI (ms : List M) (n : Int) (x : M) : (M.lst ms).setI n x = match L2.ixN ms.length n with | some j => some (.lst (ms.set j x)) | none => none := rfl
@[simp] theorem x_sApp (i : Nat) (c : SE) (e : Env) : sApp i c e = match e.slot i with
  | some (.lst _) => match c e with
    | some (x, e1) => match e1.slot i with
      | some (.lst ms) => if ms.length < line then some (.nx (e1.set i (some (.lst (ms ++ [x]))))) else none
      | _ => none
    | none => none
  | _ => none := rfl
@[simp] theorem x_sAug (i : Nat) (op : Operator) (c : SE) (e : Env) : sAug i op c e = match e.slot i with
  | some (.d (.int a)) => match c e with
    | some (.d (.int b), e1) => match binI op a b with | some z => some (.nx (e1.set i (some (.d (.int z))))) | none => none
    | _ => none
  | _ => none := rfl
@[simp] theorem x_sFld (fa : Str → Str → Bool) (k : SK) (f : Str) (c : SE) (e : Env) : sFld fa k f c e = match c e with
  | some (x, e1) => match k e1 with
    | some (.at i p) => match e1.at i p with
      | some m => match m.setF fa f x with | some m' => some (.nx (e1.putAt i p m')) | none => none
      | none => none
    | _ => none
  | none => none := rfl
@[simp] theorem x_sBreak (e : Env) : sBreak e = some (.bk e) := rfl
@[simp] theorem x_sCont (e : Env) : sCont e = some (.ct e) := rfl
@[simp] theorem x_cMeth (f : Str) (tb : Str → Option Mt) (a : SA) (as : List SA) (e : Env) : cMeth f tb a as e = match a e with
  | none => none
  | some (av, e1) => match av.cls f e1 with
    | none => none
    | some c => match tb c with
      | none => none
      | some t => match evA as e1 with
        | none => none
        | some (avs, e2) => match takeA (av :: avs) e2 with
          | none => none
          | some (ms, e3) => match t.r (ms ++ t.dn.map fun i => .d (.int i)) with
            | some (m, os) => some (m, backA (av :: avs) t.mu os e3)
            | none => none := rfl
@[simp] theorem x_avm (f : Str) (e : Env) (x : M) : (AV.m x).cls f e = x.cls f := rfl
@[simp] theorem x_avl (f : Str) (e : Env) (i : Nat) : (AV.lend i).cls f e = match e.slot i with | some x => x.cls f | none => none := rfl
@[simp] theorem x_cls1 (f c : Str) (ns : List Str) (xs : List M) : (M.obj c ns xs).cls f = if fIx ns f = none then some c else none := rfl
@[simp] theorem x_cls2 (f c : Str) (ns : List Str) (xs : List D) : (M.d (.obj c ns xs)).cls f = if fIx ns f = none then some c else none := rfl
@[simp] theorem x_cMake (c : Str) (r : Fn) (dn : List Int) (as : List SA) (e : Env) : cMake c r dn as e = match evA as e with
  | none => none
  | some (avs, e1) => match takeA avs e1 with
    | none => none
    | some (ms, e2) => match r (.obj c [] [] :: (ms ++ dn.map fun i => .d (.int i))) with
        | some (.d .non, [o]) => some (o, e2)
        | _ => none := rfl
@[simp] theorem x_add (a b : Int) : binV .Add (.int a) (.int b) = some (.d (.int (a + b))) := rfl
@[simp] theorem x_subI (a b : Int) : binV .Sub (.int a) (.int b) = some (.d (.int (a - b))) := rfl
theorem x_mul (a b : Int) (h : MulOk a b) : binV .Mult (.int a) (.int b) = some (.d (.int (a * b))) := by simp [binV, binI, h]
theorem x_mod (a b : Int) (h : 0 < b) : binV .Mod (.int a) (.int b) = some (.d (.int (a % b))) := by simp [binV, binI, h]
theorem x_div (a b : Int) (h : DivOk a b) : binV .FloorDiv (.int a) (.int b) = some (.d (.int (a / b))) := by simp [binV, binI, h]
theorem divOk {a b : Int} (h : 0 < b) (h2 : b < 2 ^ 64) : DivOk a b := ⟨h, Nat.lt_of_lt_of_le (show b.natAbs < 2 ^ 64 by omega) (Nat.pow_le_pow_right (by omega) (by omega))⟩
theorem mulR (a b : Int) (h : b.natAbs < 2 ^ 64) : MulOk a b := .inr (.inl h)
theorem mulL (a b : Int) (h : a.natAbs < 2 ^ 64) : MulOk a b := .inl h
@[simp] theorem x_int (a : Int) : intL [.int a] = some (.d (.int a)) := rfl
@[simp] theorem x_max2 (a b : Int) : maxL [.int a, .int b] = some (.d (.int (if b > a then b else a))) := rfl
@[simp] theorem x_min2 (a b : Int) : minL [.int a, .int b] = some (.d (.int (if b < a then b else a))) := rfl
@[simp] theorem x_tr1 (b : Bool) : truth (.bl b) = some b := rfl
@[simp] theorem x_tr2 (i : Int) : truth (.int i) = some (i != 0) := rfl
@[simp] theorem x_tr3 (xs : List D) : truth (.tup xs) = some (!xs.isEmpty) := rfl
@[simp] theorem x_tr4 (xs : List D) : truth (.lst xs) = some (!xs.isEmpty) := rfl
theorem at_nat {α : Type} {xs : List α} {i : Int} {x : α} (h0 : 0 ≤ i) (h : xs[i.toNat]? = some x) : L2.atI xs i = some x := by
  obtain ⟨n, rfl⟩ := Int.eq_ofNat_of_zero_le h0
  exact L2.atI_nat (by simpa using h)
theorem ix_nat {n : Nat} {i : Int} (h0 : 0 ≤ i) (h : i < n) (hn : n ≤ line) : L2.ixN n i = some i.toNat := by
  have : L2.atI (List.range n) i = some i.toNat := at_nat h0 (by rw [List.getElem?_range]; omega)
  unfold L2.atI at this
  cases h2 : L2.ixN n i with
  | none => rw [List.length_range, h2] at this; cases this
  | some j =>
    rw [List.length_range, h2] at this
    have z : (List.range n)[j]? = some i.toNat := this
    obtain ⟨z1, z2⟩ := List.getElem?_eq_some_iff.mp z
    rw [List.getElem_range] at z2
    rw [z2]
theorem rng (n : Int) (h : n < 2 ^ 59) (h2 : -(2 ^ 59) ≤ n) : rangeL false [.int n] = some ((rangeI 0 n).map .int) := by
  have z : smallR 0 n = true := by simp only [smallR, Bool.and_eq_true, decide_eq_true_eq]; omega
  show (if (smallR 0 n && (!false || decide (n.toNat ≤ line))) = true then _ else _) = _
  rw [if_pos (by rw [z]; rfl)]
theorem rng2 (a b : Int) (ha : -(2 ^ 59) ≤ a) (ha2 : a < 2 ^ 59) (h : b < 2 ^ 59) (h2 : -(2 ^ 59) ≤ b) : rangeL false [.int a, .int b] = some ((rangeI a b).map .int) := by
  have z : smallR a b = true := by simp only [smallR, Bool.and_eq_true, decide_eq_true_eq]; omega
  show (if (smallR a b && (!false || decide ((b - a).toNat ≤ line))) = true then _ else _) = _
  rw [if_pos (by rw [z]; rfl)]
theorem lrg1 (n : Int) (h0 : -(2 ^ 59) ≤ n) (h : n ≤ 16777216) : lstRange [.int n] = some (.lst (((rangeI 0 n).map D.int).map .d)) := by
  have z : smallR 0 n = true := by simp only [smallR, Bool.and_eq_true, decide_eq_true_eq]; omega
  have z2 : n.toNat ≤ line := by rw [line_nat]; omega
  show (match (if (smallR 0 n && (!true || decide (n.toNat ≤ line))) = true then some ((rangeI 0 n).map D.int) else none) with | some ys => some (M.lst (ys.map M.d)) | none => none) = _
  rw [if_pos (by rw [z, decide_eq_true z2]; rfl)]
theorem lrg2 (a b : Int) (h0 : -(2 ^ 59) ≤ a ∧ a < 2 ^ 59) (h1 : -(2 ^ 59) ≤ b ∧ b < 2 ^ 59) (h : b - a ≤ 16777216) : lstRange [.int a, .int b] = some (.lst (((rangeI a b).map D.int).map .d)) := by
  have z : smallR a b = true := by simp only [smallR, Bool.and_eq_true, decide_eq_true_eq]; omega
  have z2 : (b - a).toNat ≤ line := by rw [line_nat]; omega
  show (match (if (smallR a b && (!true || decide ((b - a).toNat ≤ line))) = true then some ((rangeI a b).map D.int) else none) with | some ys => some (M.lst (ys.map M.d)) | none => none) = _
  rw [if_pos (by rw [z, decide_eq_true z2]; rfl)]
theorem rngI_get {a b : Int} {i : Nat} {x : D} (h : ((rangeI a b).map D.int)[i]? = some x) : x = .int (a + i) ∧ (i : Int) < b - a := by
  rw [List.getElem?_map] at h
  unfold rangeI at h
  rw [List.getElem?_map] at h
  cases h2 : (List.range (b - a).toNat)[i]? with
  | none => rw [h2] at h; cases h
  | some j =>
    obtain ⟨z1, z2⟩ := List.getElem?_eq_some_iff.mp h2
    rw [List.getElem_range] at z2
    subst z2
    rw [h2] at h
    rw [List.length_range] at z1
    simp at h
    exact ⟨h.symm, by omega⟩
theorem rngI_len (a b : Int) : ((rangeI a b).map D.int).length = (b - a).toNat := by simp [rangeI]

/-! ### loops -/
/-- each turn goes on -/
theorem for_all {g : Tg} {b : SS} (P : Nat → Env → Prop) : ∀ (xs : List D) (n : Nat) (e : Env), P n e →
    (∀ i x e, xs[i]? = some x → P (n + i) e → ∃ e1 e2, g.set x e = some e1 ∧ (b e1 = some (.nx e2) ∨ b e1 = some (.ct e2)) ∧ P (n + i + 1) e2) → ∃ e', forL g b xs e = some (.nx e') ∧ P (n + xs.length) e'
  | [], n, e, h, _ => ⟨e, rfl, h⟩
  | x :: r, n, e, h, st => by
    obtain ⟨e1, e2, h1, h2, h3⟩ := st 0 x e rfl h
    obtain ⟨e', h4, h5⟩ := for_all P r (n + 1) e2 h3 fun i y e hy hp => by
      have := st (i + 1) y e (by simpa using hy) (by rw [show n + (i + 1) = n + 1 + i by omega]; exact hp)
      rw [show n + (i + 1) + 1 = n + 1 + i + 1 by omega] at this
      exact this
    refine ⟨e', ?_, by rw [show n + (x :: r).length = n + 1 + r.length by simp; omega]; exact h5⟩
    simp only [forL, h1]
    rcases h2 with h2 | h2 <;> rw [h2] <;> exact h4
/-- each turn goes on, or is the last -/
theorem for_some {g : Tg} {b : SS} (P : Nat → Env → Prop) (Q : R → Prop) : ∀ (xs : List D) (n : Nat) (e : Env), P n e →
    (∀ i x e, xs[i]? = some x → P (n + i) e → ∃ e1, g.set x e = some e1 ∧ ((∃ e2, (b e1 = some (.nx e2) ∨ b e1 = some (.ct e2)) ∧ P (n + i + 1) e2) ∨ (∃ e2, b e1 = some (.bk e2) ∧ Q (.nx e2)) ∨ ∃ m e2, b e1 = some (.rt m e2) ∧ Q (.rt m e2))) →
    (∀ e, P (n + xs.length) e → Q (.nx e)) → ∃ r, forL g b xs e = some r ∧ Q r
  | [], n, e, h, _, hq => ⟨.nx e, rfl, hq e h⟩
  | x :: r, n, e, h, st, hq => by
    obtain ⟨e1, h1, h2⟩ := st 0 x e rfl h
    simp only [forL, h1]
    rcases h2 with ⟨e2, h2, h3⟩ | ⟨e2, h2, h3⟩ | ⟨m, e2, h2, h3⟩
    · obtain ⟨r', h4, h5⟩ := for_some P Q r (n + 1) e2 h3 (fun i y e hy hp => by
        have := st (i + 1) y e (by simpa using hy) (by rw [show n + (i + 1) = n + 1 + i by omega]; exact hp)
        rw [show n + (i + 1) + 1 = n + 1 + i + 1 by omega] at this
        exact this) (fun e he => hq e (by rw [show n + (x :: r).length = n + 1 + r.length by simp; omega]; exact he))
      refine ⟨r', ?_, h5⟩
      rcases h2 with h2 | h2 <;> rw [h2] <;> exact h4
    · exact ⟨.nx e2, by rw [h2], h3⟩
    · exact ⟨.rt m e2, by rw [h2], h3⟩

/-! ### comprehensions -/
theorem wipe_wipe {e : Env} {vs : List Nat} : wipeE (wipeE e vs) vs = wipeE e vs := by
  apply List.ext_getElem?
  intro j
  rw [wE_get, wE_get, wE_len]
  split <;> rfl
theorem wipe_set {e : Env} {vs : List Nat} {j : Nat} {o : Option M} (hj : j ∈ vs) : wipeE (e.set j o) vs = wipeE e vs := by
  apply List.ext_getElem?
  intro i
  rw [wE_get, wE_get, List.length_set]
  by_cases h : i ∈ vs ∧ i < e.length
  · rw [if_pos h, if_pos h]
  · rw [if_neg h, if_neg h]
    by_cases hi : j = i
    · subst hi
      have : ¬ j < e.length := fun z => h ⟨hj, z⟩
      rw [List.getElem?_eq_none (by rw [List.length_set]; omega), List.getElem?_eq_none (by omega)]
    · rw [List.getElem?_set_ne hi]
theorem back_self {e : Env} {vs : List Nat} : backE e e vs = e := by
  apply List.ext_getElem?
  intro j
  rw [bE_get.2]
  split
  · rename_i h
    rw [List.getD_eq_getElem?_getD, List.getElem?_eq_getElem h.2]; rfl
  · rfl
theorem compL_pure {g : Tg} {t : ST} {c : SE} {vs : List Nat} {e : Env} (p : D → Bool) (f : D → M) : ∀ (xs : List D) (e' : Env), wipeE e' vs = wipeE e vs →
    (∀ x ∈ xs, ∃ e1, g.set x (wipeE e vs) = some e1 ∧ wipeE e1 vs = wipeE e vs ∧ t e1 = some (p x, e1) ∧ (p x = true → c e1 = some (f x, e1))) →
    ∃ e'', compL g t c vs xs e' = some ((xs.filter p).map f, e'') ∧ wipeE e'' vs = wipeE e vs
  | [], e', h, _ => ⟨e', rfl, h⟩
  | x :: r, e', h, st => by
    obtain ⟨e1, h1, h2, h3, h4⟩ := st x List.mem_cons_self
    obtain ⟨e'', h5, h6⟩ := compL_pure p f r e1 h2 fun y hy => st y (List.mem_cons_of_mem _ hy)
    refine ⟨e'', ?_, h6⟩
    simp only [compL, h, h1, h3]
    cases hp : p x with
    | true => simp [h4 hp, h5, hp]
    | false => simp [h5, hp]
/-- a comprehension whose parts change nothing -/
theorem comp_pure {vs : List Nat} {it : SI} {g : Tg} {t : ST} {c : SE} {e e1 : Env} {xs : List D} (p : D → Bool) (f : D → M) (hi : it e = some (xs, e1)) (hl : xs.length < line) (hf : flatE e1 vs = true) (hg : (g.ns.all fun j => vs.contains j) = true)
    (st : ∀ x ∈ xs, ∃ e2, g.set x (wipeE e1 vs) = some e2 ∧ wipeE e2 vs = wipeE e1 vs ∧ t e2 = some (p x, e2) ∧ (p x = true → c e2 = some (f x, e2))) :
    cComp vs it g t c e = some (.lst ((xs.filter p).map f), e1) := by
  obtain ⟨e'', h1, h2⟩ := compL_pure (e := e1) p f xs e1 rfl st
  unfold cComp
  simp only [hi]
  rw [if_pos ⟨hl, hf, hg⟩, h1]
  simp only [Option.some.injEq, Prod.mk.injEq, true_and]
  rw [← back_wipe, h2, back_wipe, back_self]
/-- a state goes through a comprehension -/
theorem compL_inv {g : Tg} {t : ST} {c : SE} {vs : List Nat} (P : Nat → List M → Env → Prop) : ∀ (xs : List D) (n : Nat) (ms0 : List M) (e : Env), P n ms0 e →
    (∀ i x ms e, xs[i]? = some x → P (n + i) ms e → ∃ e1 e2 m e3, g.set x (wipeE e vs) = some e1 ∧ t e1 = some (true, e2) ∧ c e2 = some (m, e3) ∧ P (n + i + 1) (ms ++ [m]) e3) → ∃ ms e', compL g t c vs xs e = some (ms, e') ∧ P (n + xs.length) (ms0 ++ ms) e'
  | [], n, ms0, e, h, _ => ⟨[], e, rfl, by simpa using h⟩
  | x :: r, n, ms0, e, h, st => by
    obtain ⟨e1, e2, m, e3, h1, h2, h3, h4⟩ := st 0 x ms0 e rfl h
    obtain ⟨ms, e', h5, h6⟩ := compL_inv P r (n + 1) (ms0 ++ [m]) e3 h4 fun i y ms e hy hp => by
      have := st (i + 1) y ms e (by simpa using hy) (by rw [show n + (i + 1) = n + 1 + i by omega]; exact hp)
      rw [show n + (i + 1) + 1 = n + 1 + i + 1 by omega] at this
      exact this
    refine ⟨m :: ms, e', by simp only [compL, h1, h2, h3, h5], ?_⟩
    rw [show n + (x :: r).length = n + 1 + r.length by simp; omega]
    simpa using h6
/-- .. what is walked changes nothing either -/
theorem comp_same {vs : List Nat} {it : SI} {g : Tg} {t : ST} {c : SE} {xs : List D} (e : Env) (p : D → Bool) (f : D → M) (hi : it e = some (xs, e)) (hl : xs.length < line) (hf : flatE e vs = true) (hg : (g.ns.all fun j => vs.contains j) = true)
    (st : ∀ x ∈ xs, ∃ e2, g.set x (wipeE e vs) = some e2 ∧ wipeE e2 vs = wipeE e vs ∧ t e2 = some (p x, e2) ∧ (p x = true → c e2 = some (f x, e2))) :
    cComp vs it g t c e = some (.lst ((xs.filter p).map f), e) := comp_pure p f hi hl hf hg st
@[simp] theorem x_wp0 (e : Env) : wipeE e [] = e := rfl
@[simp] theorem x_wp1 (e : Env) (v : Nat) (vs : List Nat) : wipeE e (v :: vs) = (wipeE e vs).set v none := rfl
@[simp] theorem x_fl (e : Env) (vs : List Nat) : flatE e vs = vs.all fun v => match e.slot v with | none => true | some (.d _) => true | _ => false := rfl
@[simp] theorem x_ns (i : Nat) : (Tg.n i).ns = [i] := by simp [Tg.ns]
@[simp] theorem x_nst (gs : List Tg) : (Tg.t gs).ns = Tg.nss gs := by simp [Tg.ns]
@[simp] theorem x_nss0 : Tg.nss [] = [] := by simp [Tg.nss]
@[simp] theorem x_nss1 (g : Tg) (gs : List Tg) : Tg.nss (g :: gs) = g.ns ++ Tg.nss gs := by simp [Tg.nss]
end Ev
set_option Elab.async false
set_option linter.all false
set_option maxRecDepth 100000
set_option maxHeartbeats 1000000
/-! Typed plain functions, and how they tell what the combinators give. -/
namespace Ev
open PySem PySem.W

/-- a run that is never opened -/
@[irreducible] def rn (T : Tb) (k : Nat) : Pl → Fn := run T k
theorem rn_eq (T : Tb) (k : Nat) : rn T k = run T k := by unfold rn; rfl
/-! ### typed values -/
abbrev eI : Int → D := .int
abbrev eB : Bool → D := .bl
abbrev eS : Str → D := .str
abbrev eN : Unit → D := fun _ => .non
abbrev eT {α : Type} (f : α → D) : List α → D := fun xs => .tup (xs.map f)
abbrev eL {α : Type} (f : α → D) : List α → D := fun xs => .lst (xs.map f)
abbrev eF {α : Type} (f : α → D) : List α → D := fun xs => .frl (xs.map f)
@[reducible] def eO {α : Type} (f : α → D) : Option α → D
  | none => .non
  | some v => f v
abbrev eP1 {α : Type} (f : α → D) : α → D := fun p => .tup [f p]
abbrev eP2 {α β : Type} (f : α → D) (g : β → D) : α × β → D := fun p => .tup [f p.1, g p.2]
abbrev eP3 {α β γ : Type} (f : α → D) (g : β → D) (h : γ → D) : α × β × γ → D := fun p => .tup [f p.1, g p.2.1, h p.2.2]
abbrev eP4 {α β γ δ : Type} (f : α → D) (g : β → D) (h : γ → D) (i : δ → D) : α × β × γ × δ → D := fun p => .tup [f p.1, g p.2.1, h p.2.2.1, i p.2.2.2]
abbrev mD {α : Type} (f : α → D) : α → M := fun x => .d (f x)
abbrev mL {α : Type} (f : α → M) : List α → M := fun xs => .lst (xs.map f)
theorem fz_d {x : D} : (M.d x).fz = x := by simp [M.fz]
theorem fz_L {α : Type} {m : α → M} {f : α → D} (h : ∀ x, (m x).fz = f x) {xs : List α} : (M.lst (xs.map m)).fz = .lst (xs.map f) := by
  simp only [M.fz, M.fzs_map, List.map_map, D.lst.injEq]
  exact List.map_congr_left fun x _ => h x
theorem fzs0 : M.fzs [] = [] := by simp [M.fzs]
theorem fzs1 {x : M} {r : List M} {d : D} {ds : List D} (h : x.fz = d) (hr : M.fzs r = ds) : M.fzs (x :: r) = d :: ds := by simp [M.fzs, h, hr]
theorem fz_o {c : Str} {ns : List Str} {ms : List M} {ds : List D} (h : M.fzs ms = ds) : (M.obj c ns ms).fz = .obj c ns ds := by simp [M.fz, h]
theorem fz_l {ms : List M} {ds : List D} (h : M.fzs ms = ds) : (M.lst ms).fz = .lst ds := by simp [M.fz, h]

/-! ### typed operations -/
abbrev ixO {α : Type} (xs : List α) (i : Int) : Option α := L2.atI xs i
def rngO (a b : Int) : Option (List Int) := if smallR a b then some (rangeI a b) else none
def stpO (a b c : Int) : Option (List Int) := if smallR a b = true ∧ 1 ≤ c ∧ c < 536870912 then some (stepI a b c) else none
def dwnO (a b : Int) : Option (List Int) := if smallR a b = true then some (downI a b) else none
def lrO (a b : Int) : Option (List Int) := if smallR a b && decide ((b - a).toNat ≤ line) then some (rangeI a b) else none
def pushO {α : Type} (xs : List α) (x : α) : Option (List α) := if xs.length < line then some (xs ++ [x]) else none
def catO {α : Type} (xs ys : List α) : Option (List α) := if xs.length + ys.length ≤ line then some (xs ++ ys) else none
def rpL {α : Type} (xs : List α) (n : Int) : Option (List α) := if n.natAbs ≤ line ∧ xs.length * n.toNat ≤ line then some (List.replicate n.toNat xs).flatten else none
def rpT {α : Type} (xs : List α) (n : Int) : Option (List α) := if xs.length ≠ 0 ∧ 2 ≤ n ∧ n ≤ 1000 ∧ xs.length ≤ 1000 then some (List.replicate n.toNat xs).flatten else if n = 1 then some xs else none
def setO {α : Type} (xs : List α) (i : Int) (x : α) : Option (List α) := match L2.ixN xs.length i with | some j => some (xs.set j x) | none => none
def minO : List Int → Option Int | [] => none | a :: r => some (r.foldl min a)
def maxO : List Int → Option Int | [] => none | a :: r => some (r.foldl max a)
abbrev isort (xs : List Int) : List Int := xs.mergeSort (fun a b => decide (a ≤ b))
def srtO (xs : List Int) : Option (List Int) := if xs.length ≤ line then some (isort xs) else none
def lsO (xs : List Int) : Option Int := if xs.Nodup ∧ xs.length ≤ 4000 then some xs.length else none
def idxO {α : Type} [DecidableEq α] (x : α) (xs : List α) : Option Int := if x ∈ xs then some (xs.idxOf x : Int) else none
def enumI {α : Type} (xs : List α) : List (Int × α) := ((List.range xs.length).zip xs).map fun p => ((p.1 : Int), p.2)
def zipO {α β : Type} (xs : List α) (ys : List β) : Option (List (α × β)) := if xs.length = ys.length then some (xs.zip ys) else none
def guardO (b : Bool) : Option Unit := if b then some () else none
/-- comprehensions -/
def mapG {α β : Type} (xs : List α) (f : α → β) : Option (List β) := if xs.length < line then some (xs.map f) else none
def filG {α β : Type} (xs : List α) (p : α → Bool) (f : α → β) : Option (List β) := if xs.length < line then some ((xs.filter p).map f) else none
def mapL {α β : Type} (f : α → Option β) : List α → Option (List β)
  | [] => some []
  | x :: r => (f x).bind fun y => (mapL f r).bind fun ys => some (y :: ys)
def compL1 {α β : Type} (f : α → Option (Option β)) : List α → Option (List β)
  | [] => some []
  | x :: r => (f x).bind fun y => (compL1 f r).bind fun ys => some (match y with | some y => y :: ys | none => ys)
def compLS {α β σ : Type} (f : σ → α → Option (Option β × σ)) : List α → σ → Option (List β × σ)
  | [], s => some ([], s)
  | x :: r, s => (f s x).bind fun y => (compLS f r y.2).bind fun ys => some (match y.1 with | some z => (z :: ys.1, ys.2) | none => ys)
def mapO {α β : Type} (xs : List α) (f : α → Option β) : Option (List β) := if xs.length < line then mapL f xs else none
def compO {α β : Type} (xs : List α) (f : α → Option (Option β)) : Option (List β) := if xs.length < line then compL1 f xs else none
def compS {α β σ : Type} (xs : List α) (s : σ) (f : σ → α → Option (Option β × σ)) : Option (List β × σ) := if xs.length < line then compLS f xs s else none
/-- flow -/
inductive Fl (σ β ρ : Type) where
  | nx (s : σ) | bk (b : β) | ct (b : β) | rt (v : ρ)
inductive Rs (σ ρ : Type) where
  | nx (s : σ) | rt (v : ρ)
def foldO {α σ : Type} (f : σ → α → Option σ) : List α → σ → Option σ
  | [], s => some s
  | x :: r, s => (f s x).bind fun s' => foldO f r s'
def forO {α σ ρ : Type} (f : σ → α → Option (Fl σ σ ρ)) : List α → σ → Option (Rs σ ρ)
  | [], s => some (.nx s)
  | x :: r, s => (f s x).bind fun z => match z with
    | .nx s' => forO f r s'
    | .ct s' => forO f r s'
    | .bk s' => some (.nx s')
    | .rt v => some (.rt v)
def whileO {σ ρ : Type} (t : σ → Option Bool) (b : σ → Option (Fl σ σ ρ)) : Nat → σ → Option (Rs σ ρ)
  | 0, _ => none
  | n + 1, s => (t s).bind fun c => if c then (b s).bind fun z => match z with
      | .nx s' => whileO t b n s'
      | .ct s' => whileO t b n s'
      | .bk s' => some (.nx s')
      | .rt v => some (.rt v)
    else some (.nx s)
abbrev WF : Nat := 100000

/-! ### what a run of statements gives -/
def WS (Q : R → Prop) (r : Option R) : Prop := ∃ x, r = some x ∧ Q x
@[reducible] def qN {σ : Type} (Nx : σ → Env → Prop) (s : σ) : R → Prop
  | .nx e => Nx s e
  | .ct e => Nx s e
  | _ => False
@[reducible] def qM {σ : Type} (Nx : σ → Env → Prop) (s : σ) : R → Prop
  | .nx e => Nx s e
  | _ => False
@[reducible] def qF {ρ : Type} (Rt : ρ → M → Env → Prop) (v : ρ) : R → Prop
  | .rt m e => Rt v m e
  | .nx e => Rt v (.d .non) e
  | _ => False
@[reducible] def qL {σ β ρ : Type} (Nx : σ → Env → Prop) (Bk : β → Env → Prop) (Rt : ρ → M → Env → Prop) (v : Fl σ β ρ) : R → Prop
  | .nx e => match v with | .nx s => Nx s e | _ => False
  | .bk e => match v with | .bk s => Bk s e | _ => False
  | .ct e => match v with | .ct s => Bk s e | _ => False
  | .rt m e => match v with | .rt w => Rt w m e | _ => False
@[reducible] def qR {σ ρ : Type} (Nx : σ → Env → Prop) (Rt : ρ → M → Env → Prop) (v : Rs σ ρ) : R → Prop
  | .nx e => match v with | .nx s => Nx s e | _ => False
  | .rt m e => match v with | .rt w => Rt w m e | _ => False
  | _ => False
section
variable {Q : R → Prop} {a b c : SS} {e e1 e2 : Env} {m : M} {x y : D}
theorem bnd {α β : Type} {o : Option α} {f : α → Option β} {v : β} (h : o.bind f = some v) : ∃ x, o = some x ∧ f x = some v := by
  cases o with
  | none => cases h
  | some x => exact ⟨x, rfl, h⟩
theorem ite_t {α : Type} {b : Bool} {x y z : Option α} (h : b = true) (hg : (if b = true then x else y) = z) : x = z := by rw [if_pos h] at hg; exact hg
theorem ite_f {α : Type} {b : Bool} {x y z : Option α} (h : b = false) (hg : (if b = true then x else y) = z) : y = z := by rw [if_neg (by rw [h]; decide)] at hg; exact hg
theorem ws (h : a e = some (.nx e1)) (k : WS Q (b e1)) : WS Q (sSeq a b e) := by
  unfold WS sSeq at *; rw [h]; exact k
theorem ws_end (h : Q (.nx e)) : WS Q (sSkip e) := ⟨_, rfl, h⟩
theorem ws_skip (k : WS Q (c e)) : WS Q (sSeq sSkip c e) := k
theorem ws_assoc (k : WS Q (sSeq a (sSeq b c) e)) : WS Q (sSeq (sSeq a b) c e) := by
  have : sSeq (sSeq a b) c e = sSeq a (sSeq b c) e := by
    unfold sSeq
    cases a e with
    | none => rfl
    | some r => cases r <;> rfl
  rw [this]; exact k
theorem ws_ret {k : SE} (h : k e = some (m, e1)) (q : Q (.rt m e1)) : WS Q (sSeq (sRet k) c e) := ⟨.rt m e1, by simp [h], q⟩
theorem ws_retV {i : Nat} (h : e[i]? = some (some m)) (h2 : e.set i none = e1) (q : Q (.rt m e1)) : WS Q (sSeq (sRetV i) c e) := ⟨.rt m e1, by subst h2; simp [h], q⟩
theorem ws_retN (q : Q (.rt (.d .non) e)) : WS Q (sSeq sRetN c e) := ⟨.rt (.d .non) e, by simp, q⟩
theorem ws_bk (q : Q (.bk e)) : WS Q (sSeq sBreak c e) := ⟨.bk e, by simp, q⟩
theorem ws_ct (q : Q (.ct e)) : WS Q (sSeq sCont c e) := ⟨.ct e, by unfold sSeq sCont; rfl, q⟩
theorem ws_if {t : ST} {bv : Bool} (ht : t e = some (bv, e1)) (k1 : bv = true → WS Q (sSeq a c e1)) (k2 : bv = false → WS Q (sSeq b c e1)) : WS Q (sSeq (sIf t a b) c e) := by
  unfold WS sSeq at *
  simp only [x_sIf, ht]
  cases bv with
  | true => exact k1 rfl
  | false => exact k2 rfl
/-- a part by itself, then the rest -/
theorem ws_mid {Q' : R → Prop} (h : WS Q' (a e)) (k : ∀ r, Q' r → match r with | .nx e1 => WS Q (b e1) | r => Q r) : WS Q (sSeq a b e) := by
  obtain ⟨r, h1, h2⟩ := h
  have := k r h2
  unfold sSeq
  rw [h1]
  cases r with
  | nx e1 => exact this
  | _ => exact ⟨_, rfl, this⟩
theorem ws_ifM {t : ST} {bv : Bool} (ht : t e = some (bv, e1)) (k1 : bv = true → WS Q (a e1)) (k2 : bv = false → WS Q (b e1)) : WS Q (sIf t a b e) := by
  unfold WS at *
  simp only [x_sIf, ht]
  cases bv with
  | true => exact k1 rfl
  | false => exact k2 rfl
/-- a def's run -/
theorem runW {ρ : Type} {Rt : ρ → M → Env → Prop} {v : ρ} {f : SS} {n np : Nat} {mu : List Nat} {ms : List M} {m0 : M} {os : List M} (hl : ms.length = np) (h : WS (qF Rt v) (f (startE n ms))) (hR : ∀ m e, Rt v m e → m = m0 ∧ takeO mu e = some os) : runF f n np mu ms = some (m0, os) := by
  obtain ⟨r, h1, h2⟩ := h
  unfold runF
  rw [if_pos hl, h1]
  cases r with
  | nx e => obtain ⟨z1, z2⟩ := hR _ _ h2; simp [z2, ← z1]
  | rt m e => obtain ⟨z1, z2⟩ := hR _ _ h2; simp [z2, ← z1]
  | bk e => exact absurd h2 id
  | ct e => exact absurd h2 id

/-! ### loops -/
theorem for_fold {α σ : Type} {g : Tg} {b : SS} {enc : α → D} {Nx : σ → Env → Prop} {f : σ → α → Option σ}
    (st : ∀ s x e s', Nx s e → f s x = some s' → ∃ e1, g.set (enc x) e = some e1 ∧ WS (qN Nx s') (b e1)) : ∀ (xs : List α) (s s' : σ) (e : Env), Nx s e → foldO f xs s = some s' → WS (qM Nx s') (forL g b (xs.map enc) e)
  | [], s, s', e, h, hf => ⟨.nx e, rfl, by cases hf; exact h⟩
  | x :: r, s, s', e, h, hf => by
    obtain ⟨s1, h1, h2⟩ := bnd hf
    obtain ⟨e1, g1, w, g2, g3⟩ := st s x e s1 h h1
    cases w with
    | nx e2 => obtain ⟨w', i1, i2⟩ := for_fold st r s1 s' e2 g3 h2; exact ⟨w', by simp only [List.map_cons, forL, g1, g2, i1], i2⟩
    | ct e2 => obtain ⟨w', i1, i2⟩ := for_fold st r s1 s' e2 g3 h2; exact ⟨w', by simp only [List.map_cons, forL, g1, g2, i1], i2⟩
    | bk e2 => exact absurd g3 id
    | rt m e2 => exact absurd g3 id
theorem for_full {α σ ρ : Type} {g : Tg} {b : SS} {enc : α → D} {Nx : σ → Env → Prop} {Rt : ρ → M → Env → Prop} {f : σ → α → Option (Fl σ σ ρ)}
    (st : ∀ s x e z, Nx s e → f s x = some z → ∃ e1, g.set (enc x) e = some e1 ∧ WS (qL Nx Nx Rt z) (b e1)) : ∀ (xs : List α) (s : σ) (z : Rs σ ρ) (e : Env), Nx s e → forO f xs s = some z → WS (qR Nx Rt z) (forL g b (xs.map enc) e)
  | [], s, z, e, h, hf => ⟨.nx e, rfl, by cases hf; exact h⟩
  | x :: r, s, z, e, h, hf => by
    obtain ⟨s1, h1, h2⟩ := bnd hf
    obtain ⟨e1, g1, w, g2, g3⟩ := st s x e s1 h h1
    cases w with
    | nx e2 =>
      cases s1 with
      | nx s2 => obtain ⟨w', i1, i2⟩ := for_full st r s2 z e2 g3 h2; exact ⟨w', by simp only [List.map_cons, forL, g1, g2, i1], i2⟩
      | _ => exact absurd g3 id
    | ct e2 =>
      cases s1 with
      | ct s2 => obtain ⟨w', i1, i2⟩ := for_full st r s2 z e2 g3 h2; exact ⟨w', by simp only [List.map_cons, forL, g1, g2, i1], i2⟩
      | _ => exact absurd g3 id
    | bk e2 =>
      cases s1 with
      | bk s2 => cases h2; exact ⟨.nx e2, by simp only [List.map_cons, forL, g1, g2], g3⟩
      | _ => exact absurd g3 id
    | rt m e2 =>
      cases s1 with
      | rt s2 => cases h2; exact ⟨.rt m e2, by simp only [List.map_cons, forL, g1, g2], g3⟩
      | _ => exact absurd g3 id
theorem while_full {σ ρ : Type} {t : ST} {b : SS} {Nx : σ → Env → Prop} {Rt : ρ → M → Env → Prop} {tg : σ → Option Bool} {f : σ → Option (Fl σ σ ρ)}
    (st : ∀ s e c, Nx s e → tg s = some c → ∃ e1, t e = some (c, e1) ∧ (c = false → Nx s e1) ∧ (c = true → ∀ z, f s = some z → WS (qL Nx Nx Rt z) (b e1))) : ∀ (n : Nat) (s : σ) (z : Rs σ ρ) (e : Env), Nx s e → whileO tg f n s = some z → WS (qR Nx Rt z) (whileL t b n e)
  | 0, s, z, e, h, hf => by cases hf
  | n + 1, s, z, e, h, hf => by
    obtain ⟨c, h1, h2⟩ := bnd hf
    obtain ⟨e1, g1, g2, g3⟩ := st s e c h h1
    cases c with
    | false =>
      have h2 : some (Rs.nx s) = some z := h2
      cases h2
      exact ⟨.nx e1, by simp only [whileL, g1], g2 rfl⟩
    | true =>
      rw [if_pos rfl] at h2
      obtain ⟨s1, h3, h4⟩ := bnd h2
      obtain ⟨w, i1, i2⟩ := g3 rfl s1 h3
      cases w with
      | nx e2 =>
        cases s1 with
        | nx s2 => obtain ⟨w', j1, j2⟩ := while_full st n s2 z e2 i2 h4; exact ⟨w', by simp only [whileL, g1, i1, j1], j2⟩
        | _ => exact absurd i2 id
      | ct e2 =>
        cases s1 with
        | ct s2 => obtain ⟨w', j1, j2⟩ := while_full st n s2 z e2 i2 h4; exact ⟨w', by simp only [whileL, g1, i1, j1], j2⟩
        | _ => exact absurd i2 id
      | bk e2 =>
        cases s1 with
        | bk s2 => cases h4; exact ⟨.nx e2, by simp only [whileL, g1, i1], i2⟩
        | _ => exact absurd i2 id
      | rt m e2 =>
        cases s1 with
        | rt s2 => cases h4; exact ⟨.rt m e2, by simp only [whileL, g1, i1], i2⟩
        | _ => exact absurd i2 id
theorem w_for {it : SI} {g : Tg} {b : SS} {ds : List D} (hi : it e = some (ds, e1)) (h : WS Q (forL g b ds e1)) : WS Q (sFor it g b e) := by
  unfold WS at *; simp only [x_sFor, hi]; exact h
theorem w_while {t : ST} {b : SS} {n : Nat} (h : WS Q (whileL t b n e)) : WS Q (sWhile n t b e) := h

/-! ### comprehensions -/
theorem comp_st {α β σ : Type} {g : Tg} {t : ST} {c : SE} {vs : List Nat} {enc : α → D} {mβ : β → M} {Nx : σ → Env → Prop} {f : σ → α → Option (Option β × σ)}
    (st : ∀ s x e r, Nx s e → f s x = some r → ∃ e1 e2, g.set (enc x) e = some e1 ∧ ((r.1 = none ∧ t e1 = some (false, e2) ∧ Nx r.2 (wipeE e2 vs)) ∨ ∃ y e3, r.1 = some y ∧ t e1 = some (true, e2) ∧ c e2 = some (mβ y, e3) ∧ Nx r.2 (wipeE e3 vs))) :
    ∀ (xs : List α) (s : σ) (z : List β × σ) (e : Env), Nx s (wipeE e vs) → compLS f xs s = some z → ∃ e', compL g t c vs (xs.map enc) e = some (z.1.map mβ, e') ∧ Nx z.2 (wipeE e' vs)
  | [], s, z, e, h, hf => ⟨e, by cases hf; rfl, by cases hf; exact h⟩
  | x :: r, s, z, e, h, hf => by
    obtain ⟨s1, h1, h2⟩ := bnd hf
    obtain ⟨zs, h3, h4⟩ := bnd h2
    obtain ⟨e1, e2, g1, g2⟩ := st s x _ s1 h h1
    rcases g2 with ⟨g2, g3, g4⟩ | ⟨y, e3, g2, g3, g4, g5⟩
    · obtain ⟨e', i1, i2⟩ := comp_st st r s1.2 zs e2 g4 h3
      rw [g2] at h4
      cases h4
      exact ⟨e', by simp only [List.map_cons, compL, g1, g3, i1], i2⟩
    · obtain ⟨e', i1, i2⟩ := comp_st st r s1.2 zs e3 g5 h3
      rw [g2] at h4
      cases h4
      exact ⟨e', by simp only [List.map_cons, compL, g1, g3, g4, i1], i2⟩
/-- stateful -/
theorem c_compS {α β σ : Type} {it : SI} {g : Tg} {t : ST} {c : SE} {vs : List Nat} {enc : α → D} {mβ : β → M} {Nx : σ → Env → Prop} {f : σ → α → Option (Option β × σ)} {xs : List α} {s : σ} {z : List β × σ} {e e1 : Env}
    (hi : it e = some (xs.map enc, e1)) (hf : flatE e1 vs = true) (hg : (g.ns.all fun j => vs.contains j) = true) (h0 : Nx s (wipeE e1 vs))
    (st : ∀ s x e r, Nx s e → f s x = some r → ∃ e1 e2, g.set (enc x) e = some e1 ∧ ((r.1 = none ∧ t e1 = some (false, e2) ∧ Nx r.2 (wipeE e2 vs)) ∨ ∃ y e3, r.1 = some y ∧ t e1 = some (true, e2) ∧ c e2 = some (mβ y, e3) ∧ Nx r.2 (wipeE e3 vs)))
    (h : compS xs s f = some z) : ∃ e', cComp vs it g t c e = some (.lst (z.1.map mβ), backE e1 e' vs) ∧ Nx z.2 e' := by
  unfold compS at h
  split at h
  · rename_i hl
    obtain ⟨e', i1, i2⟩ := comp_st st xs s z e1 h0 h
    refine ⟨wipeE e' vs, ?_, i2⟩
    unfold cComp
    simp only [hi]
    rw [if_pos ⟨by rw [List.length_map]; exact hl, hf, hg⟩, i1, back_wipe]
  · cases h
theorem compLS_of {α β : Type} {f : α → Option (Option β)} : ∀ {xs : List α} {ys : List β}, compL1 f xs = some ys → compLS (fun (s : Unit) x => (f x).bind fun y => some (y, s)) xs () = some (ys, ())
  | [], ys, h => by cases h; rfl
  | x :: r, ys, h => by
    obtain ⟨y, h1, h2⟩ := bnd h
    obtain ⟨zs, h3, h4⟩ := bnd h2
    have := compLS_of h3
    simp only [compLS, h1, Option.bind_some, this]
    cases y <;> (cases h4; rfl)
theorem c_compO {α β : Type} {it : SI} {g : Tg} {t : ST} {c : SE} {vs : List Nat} {enc : α → D} {mβ : β → M} {Nx : Env → Prop} {f : α → Option (Option β)} {xs : List α} {z : List β} {e e1 : Env}
    (hi : it e = some (xs.map enc, e1)) (hf : flatE e1 vs = true) (hg : (g.ns.all fun j => vs.contains j) = true) (h0 : Nx (wipeE e1 vs))
    (st : ∀ x e r, Nx e → f x = some r → ∃ e1 e2, g.set (enc x) e = some e1 ∧ ((r = none ∧ t e1 = some (false, e2) ∧ Nx (wipeE e2 vs)) ∨ ∃ y e3, r = some y ∧ t e1 = some (true, e2) ∧ c e2 = some (mβ y, e3) ∧ Nx (wipeE e3 vs)))
    (h : compO xs f = some z) : ∃ e', cComp vs it g t c e = some (.lst (z.map mβ), backE e1 e' vs) ∧ Nx e' := by
  unfold compO at h
  split at h
  · rename_i hl
    have h2 := compLS_of h
    obtain ⟨e', i1, i2⟩ := c_compS (Nx := fun _ => Nx) (f := fun (s : Unit) x => (f x).bind fun y => some (y, s)) (mβ := mβ) (s := ()) (z := (z, ())) hi hf hg h0 (fun s x e r hn hr => by
      obtain ⟨y, h1, h2⟩ := bnd hr
      cases h2
      exact st x e y hn h1) (by unfold compS; rw [if_pos hl]; exact h2)
    exact ⟨e', i1, i2⟩
  · cases h
theorem compL1_map {α β : Type} {f : α → Option β} : ∀ {xs : List α} {ys : List β}, mapL f xs = some ys → compL1 (fun x => (f x).bind fun y => some (some y)) xs = some ys
  | [], ys, h => by cases h; rfl
  | x :: r, ys, h => by
    obtain ⟨y, h1, h2⟩ := bnd h
    obtain ⟨zs, h3, h4⟩ := bnd h2
    have := compL1_map h3
    cases h4
    simp only [compL1, h1, Option.bind_some, this]
theorem c_mapO {α β : Type} {it : SI} {g : Tg} {c : SE} {vs : List Nat} {enc : α → D} {mβ : β → M} {Nx : Env → Prop} {f : α → Option β} {xs : List α} {z : List β} {e e1 : Env}
    (hi : it e = some (xs.map enc, e1)) (hf : flatE e1 vs = true) (hg : (g.ns.all fun j => vs.contains j) = true) (h0 : Nx (wipeE e1 vs))
    (st : ∀ x e y, Nx e → f x = some y → ∃ e1 e3, g.set (enc x) e = some e1 ∧ c e1 = some (mβ y, e3) ∧ Nx (wipeE e3 vs))
    (h : mapO xs f = some z) : ∃ e', cComp vs it g tYes c e = some (.lst (z.map mβ), backE e1 e' vs) ∧ Nx e' := by
  unfold mapO at h
  split at h
  · rename_i hl
    exact c_compO (f := fun x => (f x).bind fun y => some (some y)) hi hf hg h0 (fun x e r hn hr => by
      obtain ⟨y, h1, h2⟩ := bnd hr
      cases h2
      obtain ⟨e1, e3, a1, a2, a3⟩ := st x e y hn h1
      exact ⟨e1, e1, a1, .inr ⟨y, e3, rfl, rfl, a2, a3⟩⟩) (by unfold compO; rw [if_pos hl]; exact compL1_map h)
  · cases h
theorem mapL_tot {α β : Type} {f : α → β} : ∀ xs : List α, mapL (fun x => some (f x)) xs = some (xs.map f)
  | [] => rfl
  | x :: r => by simp only [mapL, Option.bind_some, mapL_tot r, List.map_cons]
theorem c_mapG {α β : Type} {it : SI} {g : Tg} {c : SE} {vs : List Nat} {enc : α → D} {mβ : β → M} {Nx : Env → Prop} {f : α → β} {xs : List α} {z : List β} {e e1 : Env}
    (hi : it e = some (xs.map enc, e1)) (hf : flatE e1 vs = true) (hg : (g.ns.all fun j => vs.contains j) = true) (h0 : Nx (wipeE e1 vs))
    (st : ∀ x e, Nx e → ∃ e1 e3, g.set (enc x) e = some e1 ∧ c e1 = some (mβ (f x), e3) ∧ Nx (wipeE e3 vs))
    (h : mapG xs f = some z) : ∃ e', cComp vs it g tYes c e = some (.lst (z.map mβ), backE e1 e' vs) ∧ Nx e' := by
  unfold mapG at h
  split at h
  · rename_i hl
    cases h
    exact c_mapO (f := fun x => some (f x)) hi hf hg h0 (fun x e y hn hr => by cases hr; exact st x e hn) (by unfold mapO; rw [if_pos hl]; exact mapL_tot xs)
  · cases h
theorem compL1_fil {α β : Type} {p : α → Bool} {f : α → β} : ∀ xs : List α, compL1 (fun x => some (if p x then some (f x) else none)) xs = some ((xs.filter p).map f)
  | [] => rfl
  | x :: r => by
    simp only [compL1, Option.bind_some, compL1_fil r]
    cases h : p x <;> simp [h]
theorem c_filG {α β : Type} {it : SI} {g : Tg} {t : ST} {c : SE} {vs : List Nat} {enc : α → D} {mβ : β → M} {Nx : Env → Prop} {p : α → Bool} {f : α → β} {xs : List α} {z : List β} {e e1 : Env}
    (hi : it e = some (xs.map enc, e1)) (hf : flatE e1 vs = true) (hg : (g.ns.all fun j => vs.contains j) = true) (h0 : Nx (wipeE e1 vs))
    (st : ∀ x e, Nx e → ∃ e1 e2 e3, g.set (enc x) e = some e1 ∧ t e1 = some (p x, e2) ∧ Nx (wipeE e2 vs) ∧ (p x = true → c e2 = some (mβ (f x), e3) ∧ Nx (wipeE e3 vs)))
    (h : filG xs p f = some z) : ∃ e', cComp vs it g t c e = some (.lst (z.map mβ), backE e1 e' vs) ∧ Nx e' := by
  unfold filG at h
  split at h
  · rename_i hl
    cases h
    exact c_compO (f := fun x => some (if p x then some (f x) else none)) hi hf hg h0 (fun x e r hn hr => by
      cases hr
      obtain ⟨e1, e2, e3, a1, a2, a3, a4⟩ := st x e hn
      cases hp : p x with
      | true =>
        obtain ⟨b1, b2⟩ := a4 hp
        exact ⟨e1, e2, a1, .inr ⟨f x, e3, by simp, by rw [a2, hp], b1, b2⟩⟩
      | false => exact ⟨e1, e2, a1, .inl ⟨by simp, by rw [a2, hp], a3⟩⟩) (by unfold compO; rw [if_pos hl]; exact compL1_fil xs)
  · cases h
end
end Ev
set_option Elab.async false
set_option linter.all false
set_option maxRecDepth 100000
namespace Tw
open PySem Ev
theorem f_draws_with : tb.find ("draws_with", none) = some d_draws_with := by kernel_rfl
theorem r_draws_with (k : Nat) : rn tb (k + 2) ("draws_with", none) = runF (b_draws_with (rn tb (k + 1)) (rn tb k)) 4 4 [] := by rw [rn_eq, rn_eq, rn_eq, run_at f_draws_with, e_draws_with]; rfl
theorem f_counts : tb.find ("counts", none) = some d_counts := by kernel_rfl
theorem r_counts (k : Nat) : rn tb (k + 2) ("counts", none) = runF (b_counts (rn tb (k + 1)) (rn tb k)) 4 3 [] := by rw [rn_eq, rn_eq, rn_eq, run_at f_counts, e_counts]; rfl
theorem f_is_share : tb.find ("is_share", none) = some d_is_share := by kernel_rfl
theorem r_is_share (k : Nat) : rn tb (k + 2) ("is_share", none) = runF (b_is_share (rn tb (k + 1)) (rn tb k)) 5 3 [] := by rw [rn_eq, rn_eq, rn_eq, run_at f_is_share, e_is_share]; rfl
theorem f_is_chance : tb.find ("is_chance", none) = some d_is_chance := by kernel_rfl
theorem r_is_chance (k : Nat) : rn tb (k + 2) ("is_chance", none) = runF (b_is_chance (rn tb (k + 1)) (rn tb k)) 5 4 [] := by rw [rn_eq, rn_eq, rn_eq, run_at f_is_chance, e_is_chance]; rfl
theorem f_is_enough : tb.find ("is_enough", none) = some d_is_enough := by kernel_rfl
theorem r_is_enough (k : Nat) : rn tb (k + 2) ("is_enough", none) = runF (b_is_enough (rn tb (k + 1)) (rn tb k)) 6 4 [] := by rw [rn_eq, rn_eq, rn_eq, run_at f_is_enough, e_is_enough]; rfl
theorem f_is_least_looked : tb.find ("is_least_looked", none) = some d_is_least_looked := by kernel_rfl
theorem r_is_least_looked (k : Nat) : rn tb (k + 2) ("is_least_looked", none) = runF (b_is_least_looked (rn tb (k + 1)) (rn tb k)) 4 4 [] := by rw [rn_eq, rn_eq, rn_eq, run_at f_is_least_looked, e_is_least_looked]; rfl
theorem f_is_mean : tb.find ("is_mean", none) = some d_is_mean := by kernel_rfl
theorem r_is_mean (k : Nat) : rn tb (k + 2) ("is_mean", none) = runF (b_is_mean (rn tb (k + 1)) (rn tb k)) 7 4 [] := by rw [rn_eq, rn_eq, rn_eq, run_at f_is_mean, e_is_mean]; rfl
theorem f_is_peak : tb.find ("is_peak", none) = some d_is_peak := by kernel_rfl
theorem r_is_peak (k : Nat) : rn tb (k + 2) ("is_peak", none) = runF (b_is_peak (rn tb (k + 1)) (rn tb k)) 5 4 [] := by rw [rn_eq, rn_eq, rn_eq, run_at f_is_peak, e_is_peak]; rfl
theorem f_better_of : tb.find ("better_of", none) = some d_better_of := by kernel_rfl
theorem r_better_of (k : Nat) : rn tb (k + 2) ("better_of", none) = runF (b_better_of (rn tb (k + 1)) (rn tb k)) 2 2 [] := by rw [rn_eq, rn_eq, rn_eq, run_at f_better_of, e_better_of]; rfl
theorem f_behind_heap : tb.find ("behind_heap", none) = some d_behind_heap := by kernel_rfl
theorem r_behind_heap (k : Nat) : rn tb (k + 2) ("behind_heap", none) = runF (b_behind_heap (rn tb (k + 1)) (rn tb k)) 7 2 [] := by rw [rn_eq, rn_eq, rn_eq, run_at f_behind_heap, e_behind_heap]; rfl
theorem f_is_most_looks : tb.find ("is_most_looks", none) = some d_is_most_looks := by kernel_rfl
theorem r_is_most_looks (k : Nat) : rn tb (k + 2) ("is_most_looks", none) = runF (b_is_most_looks (rn tb (k + 1)) (rn tb k)) 7 4 [] := by rw [rn_eq, rn_eq, rn_eq, run_at f_is_most_looks, e_is_most_looks]; rfl
theorem f_is_integer : tb.find ("is_integer", none) = some d_is_integer := by kernel_rfl
theorem r_is_integer (k : Nat) : rn tb (k + 2) ("is_integer", none) = runF (b_is_integer (rn tb (k + 1)) (rn tb k)) 1 1 [] := by rw [rn_eq, rn_eq, rn_eq, run_at f_is_integer, e_is_integer]; rfl
theorem f_is_within : tb.find ("is_within", none) = some d_is_within := by kernel_rfl
theorem r_is_within (k : Nat) : rn tb (k + 2) ("is_within", none) = runF (b_is_within (rn tb (k + 1)) (rn tb k)) 3 3 [] := by rw [rn_eq, rn_eq, rn_eq, run_at f_is_within, e_is_within]; rfl
theorem f_is_sequence : tb.find ("is_sequence", none) = some d_is_sequence := by kernel_rfl
theorem r_is_sequence (k : Nat) : rn tb (k + 2) ("is_sequence", none) = runF (b_is_sequence (rn tb (k + 1)) (rn tb k)) 1 1 [] := by rw [rn_eq, rn_eq, rn_eq, run_at f_is_sequence, e_is_sequence]; rfl
theorem f_need : tb.find ("need", none) = some d_need := by kernel_rfl
theorem r_need (k : Nat) : rn tb (k + 2) ("need", none) = runF (b_need (rn tb (k + 1)) (rn tb k)) 2 2 [] := by rw [rn_eq, rn_eq, rn_eq, run_at f_need, e_need]; rfl
theorem f_need_integer : tb.find ("need_integer", none) = some d_need_integer := by kernel_rfl
theorem r_need_integer (k : Nat) : rn tb (k + 2) ("need_integer", none) = runF (b_need_integer (rn tb (k + 1)) (rn tb k)) 4 4 [] := by rw [rn_eq, rn_eq, rn_eq, run_at f_need_integer, e_need_integer]; rfl
theorem f_need_sequence : tb.find ("need_sequence", none) = some d_need_sequence := by kernel_rfl
theorem r_need_sequence (k : Nat) : rn tb (k + 2) ("need_sequence", none) = runF (b_need_sequence (rn tb (k + 1)) (rn tb k)) 4 4 [] := by rw [rn_eq, rn_eq, rn_eq, run_at f_need_sequence, e_need_sequence]; rfl
theorem f_need_fraction : tb.find ("need_fraction", none) = some d_need_fraction := by kernel_rfl
theorem r_need_fraction (k : Nat) : rn tb (k + 2) ("need_fraction", none) = runF (b_need_fraction (rn tb (k + 1)) (rn tb k)) 6 3 [] := by rw [rn_eq, rn_eq, rn_eq, run_at f_need_fraction, e_need_fraction]; rfl
theorem f_fraction : tb.find ("fraction", none) = some d_fraction := by kernel_rfl
theorem r_fraction (k : Nat) : rn tb (k + 2) ("fraction", none) = runF (b_fraction (rn tb (k + 1)) (rn tb k)) 3 2 [] := by rw [rn_eq, rn_eq, rn_eq, run_at f_fraction, e_fraction]; rfl
theorem f_check_slips : tb.find ("check_slips", none) = some d_check_slips := by kernel_rfl
theorem r_check_slips (k : Nat) : rn tb (k + 2) ("check_slips", none) = runF (b_check_slips (rn tb (k + 1)) (rn tb k)) 2 2 [] := by rw [rn_eq, rn_eq, rn_eq, run_at f_check_slips, e_check_slips]; rfl
theorem f_check_part : tb.find ("check_part", none) = some d_check_part := by kernel_rfl
theorem r_check_part (k : Nat) : rn tb (k + 2) ("check_part", none) = runF (b_check_part (rn tb (k + 1)) (rn tb k)) 2 2 [] := by rw [rn_eq, rn_eq, rn_eq, run_at f_check_part, e_check_part]; rfl
theorem f_check_few : tb.find ("check_few", none) = some d_check_few := by kernel_rfl
theorem r_check_few (k : Nat) : rn tb (k + 2) ("check_few", none) = runF (b_check_few (rn tb (k + 1)) (rn tb k)) 2 2 [] := by rw [rn_eq, rn_eq, rn_eq, run_at f_check_few, e_check_few]; rfl
theorem f_check_size : tb.find ("check_size", none) = some d_check_size := by kernel_rfl
theorem r_check_size (k : Nat) : rn tb (k + 2) ("check_size", none) = runF (b_check_size (rn tb (k + 1)) (rn tb k)) 2 2 [] := by rw [rn_eq, rn_eq, rn_eq, run_at f_check_size, e_check_size]; rfl
theorem f_check_sure : tb.find ("check_sure", none) = some d_check_sure := by kernel_rfl
theorem r_check_sure (k : Nat) : rn tb (k + 2) ("check_sure", none) = runF (b_check_sure (rn tb (k + 1)) (rn tb k)) 3 2 [] := by rw [rn_eq, rn_eq, rn_eq, run_at f_check_sure, e_check_sure]; rfl
theorem f_meet_part : tb.find ("meet_part", none) = some d_meet_part := by kernel_rfl
theorem r_meet_part (k : Nat) : rn tb (k + 2) ("meet_part", none) = runF (b_meet_part (rn tb (k + 1)) (rn tb k)) 3 3 [] := by rw [rn_eq, rn_eq, rn_eq, run_at f_meet_part, e_meet_part]; rfl
theorem f_missed : tb.find ("missed", none) = some d_missed := by kernel_rfl
theorem r_missed (k : Nat) : rn tb (k + 2) ("missed", none) = runF (b_missed (rn tb (k + 1)) (rn tb k)) 6 3 [] := by rw [rn_eq, rn_eq, rn_eq, run_at f_missed, e_missed]; rfl
theorem f_found_chance : tb.find ("found_chance", none) = some d_found_chance := by kernel_rfl
theorem r_found_chance (k : Nat) : rn tb (k + 2) ("found_chance", none) = runF (b_found_chance (rn tb (k + 1)) (rn tb k)) 5 3 [] := by rw [rn_eq, rn_eq, rn_eq, run_at f_found_chance, e_found_chance]; rfl
theorem f_looks_for : tb.find ("looks_for", none) = some d_looks_for := by kernel_rfl
theorem r_looks_for (k : Nat) : rn tb (k + 2) ("looks_for", none) = runF (b_looks_for (rn tb (k + 1)) (rn tb k)) 6 3 [] := by rw [rn_eq, rn_eq, rn_eq, run_at f_looks_for, e_looks_for]; rfl
theorem f_mean_of : tb.find ("mean_of", none) = some d_mean_of := by kernel_rfl
theorem r_mean_of (k : Nat) : rn tb (k + 2) ("mean_of", none) = runF (b_mean_of (rn tb (k + 1)) (rn tb k)) 3 3 [] := by rw [rn_eq, rn_eq, rn_eq, run_at f_mean_of, e_mean_of]; rfl
theorem f_peak_of : tb.find ("peak_of", none) = some d_peak_of := by kernel_rfl
theorem r_peak_of (k : Nat) : rn tb (k + 2) ("peak_of", none) = runF (b_peak_of (rn tb (k + 1)) (rn tb k)) 3 3 [] := by rw [rn_eq, rn_eq, rn_eq, run_at f_peak_of, e_peak_of]; rfl
theorem f_heap_sizes : tb.find ("heap_sizes", none) = some d_heap_sizes := by kernel_rfl
theorem r_heap_sizes (k : Nat) : rn tb (k + 2) ("heap_sizes", none) = runF (b_heap_sizes (rn tb (k + 1)) (rn tb k)) 4 2 [] := by rw [rn_eq, rn_eq, rn_eq, run_at f_heap_sizes, e_heap_sizes]; rfl
theorem f_most_looks : tb.find ("most_looks", none) = some d_most_looks := by kernel_rfl
theorem r_most_looks (k : Nat) : rn tb (k + 2) ("most_looks", none) = runF (b_most_looks (rn tb (k + 1)) (rn tb k)) 4 3 [] := by rw [rn_eq, rn_eq, rn_eq, run_at f_most_looks, e_most_looks]; rfl
theorem f_check_draw : tb.find ("check_draw", none) = some d_check_draw := by kernel_rfl
theorem r_check_draw (k : Nat) : rn tb (k + 2) ("check_draw", none) = runF (b_check_draw (rn tb (k + 1)) (rn tb k)) 3 3 [] := by rw [rn_eq, rn_eq, rn_eq, run_at f_check_draw, e_check_draw]; rfl
theorem f_chance_found : tb.find ("chance_found", none) = some d_chance_found := by kernel_rfl
theorem r_chance_found (k : Nat) : rn tb (k + 2) ("chance_found", none) = runF (b_chance_found (rn tb (k + 1)) (rn tb k)) 4 3 [] := by rw [rn_eq, rn_eq, rn_eq, run_at f_chance_found, e_chance_found]; rfl
theorem f_least_looked : tb.find ("least_looked", none) = some d_least_looked := by kernel_rfl
theorem r_least_looked (k : Nat) : rn tb (k + 2) ("least_looked", none) = runF (b_least_looked (rn tb (k + 1)) (rn tb k)) 5 3 [] := by rw [rn_eq, rn_eq, rn_eq, run_at f_least_looked, e_least_looked]; rfl
theorem f_mean_found : tb.find ("mean_found", none) = some d_mean_found := by kernel_rfl
theorem r_mean_found (k : Nat) : rn tb (k + 2) ("mean_found", none) = runF (b_mean_found (rn tb (k + 1)) (rn tb k)) 4 3 [] := by rw [rn_eq, rn_eq, rn_eq, run_at f_mean_found, e_mean_found]; rfl
theorem f_most_likely_found : tb.find ("most_likely_found", none) = some d_most_likely_found := by kernel_rfl
theorem r_most_likely_found (k : Nat) : rn tb (k + 2) ("most_likely_found", none) = runF (b_most_likely_found (rn tb (k + 1)) (rn tb k)) 4 3 [] := by rw [rn_eq, rn_eq, rn_eq, run_at f_most_likely_found, e_most_likely_found]; rfl
theorem f_pooled : tb.find ("pooled", none) = some d_pooled := by kernel_rfl
theorem r_pooled (k : Nat) : rn tb (k + 2) ("pooled", none) = runF (b_pooled (rn tb (k + 1)) (rn tb k)) 4 3 [] := by rw [rn_eq, rn_eq, rn_eq, run_at f_pooled, e_pooled]; rfl
theorem f__law_numbers : tb.find ("_law_numbers", none) = some d__law_numbers := by kernel_rfl
theorem r__law_numbers (k : Nat) : rn tb (k + 2) ("_law_numbers", none) = runF (b__law_numbers (rn tb (k + 1)) (rn tb k)) 6 1 [] := by rw [rn_eq, rn_eq, rn_eq, run_at f__law_numbers, e__law_numbers]; rfl
theorem f__law_draw : tb.find ("_law_draw", none) = some d__law_draw := by kernel_rfl
theorem r__law_draw (k : Nat) : rn tb (k + 2) ("_law_draw", none) = runF (b__law_draw (rn tb (k + 1)) (rn tb k)) 4 3 [] := by rw [rn_eq, rn_eq, rn_eq, run_at f__law_draw, e__law_draw]; rfl
theorem f__law_take : tb.find ("_law_take", none) = some d__law_take := by kernel_rfl
theorem r__law_take (k : Nat) : rn tb (k + 2) ("_law_take", none) = runF (b__law_take (rn tb (k + 1)) (rn tb k)) 3 3 [1] := by rw [rn_eq, rn_eq, rn_eq, run_at f__law_take, e__law_take]; rfl
theorem f__law_pick : tb.find ("_law_pick", none) = some d__law_pick := by kernel_rfl
theorem r__law_pick (k : Nat) : rn tb (k + 2) ("_law_pick", none) = runF (b__law_pick (rn tb (k + 1)) (rn tb k)) 3 3 [1] := by rw [rn_eq, rn_eq, rn_eq, run_at f__law_pick, e__law_pick]; rfl
theorem f__law_gcd : tb.find ("_law_gcd", none) = some d__law_gcd := by kernel_rfl
theorem r__law_gcd (k : Nat) : rn tb (k + 2) ("_law_gcd", none) = runF (b__law_gcd (rn tb (k + 1)) (rn tb k)) 6 2 [] := by rw [rn_eq, rn_eq, rn_eq, run_at f__law_gcd, e__law_gcd]; rfl
theorem f__law_sets : tb.find ("_law_sets", none) = some d__law_sets := by kernel_rfl
theorem r__law_sets (k : Nat) : rn tb (k + 2) ("_law_sets", none) = runF (b__law_sets (rn tb (k + 1)) (rn tb k)) 4 1 [] := by rw [rn_eq, rn_eq, rn_eq, run_at f__law_sets, e__law_sets]; rfl
theorem f__law_red : tb.find ("_law_red", none) = some d__law_red := by kernel_rfl
theorem r__law_red (k : Nat) : rn tb (k + 2) ("_law_red", none) = runF (b__law_red (rn tb (k + 1)) (rn tb k)) 3 2 [] := by rw [rn_eq, rn_eq, rn_eq, run_at f__law_red, e__law_red]; rfl
theorem f__law_less : tb.find ("_law_less", none) = some d__law_less := by kernel_rfl
theorem r__law_less (k : Nat) : rn tb (k + 2) ("_law_less", none) = runF (b__law_less (rn tb (k + 1)) (rn tb k)) 2 2 [] := by rw [rn_eq, rn_eq, rn_eq, run_at f__law_less, e__law_less]; rfl
theorem f__law_figure : tb.find ("_law_figure", none) = some d__law_figure := by kernel_rfl
theorem r__law_figure (k : Nat) : rn tb (k + 2) ("_law_figure", none) = runF (b__law_figure (rn tb (k + 1)) (rn tb k)) 8 3 [1] := by rw [rn_eq, rn_eq, rn_eq, run_at f__law_figure, e__law_figure]; rfl
theorem f_law : tb.find ("law", none) = some d_law := by kernel_rfl
theorem r_law (k : Nat) : rn tb (k + 2) ("law", none) = runF (b_law (rn tb (k + 1)) (rn tb k)) 24 1 [] := by rw [rn_eq, rn_eq, rn_eq, run_at f_law, e_law]; rfl
end Tw
set_option Elab.async false
set_option linter.all false
set_option maxRecDepth 100000
set_option maxHeartbeats 1000000
/-! One lemma for each construct. -/
namespace Ev
namespace Lf
open PySem PySem.W
section
variable {e e1 e2 e3 : Env} {m m1 m2 : M} {x y d : D} {i j : Nat} {k : SK} {q q1 q2 : SP} {a b c : SE} {n n1 n2 : Int} {f g : Str} {ns : List Str} {ds xs : List D} {ms : List M} {p : List Nat}
/-- a list that is owned, or is shared by now -/
def AnyL (ds : List D) (w : M) : Prop := w = .d (.lst ds) ∨ w = .lst (ds.map .d)
theorem any_d : AnyL ds (.d (.lst ds)) := .inl rfl
theorem any_o {α : Type} {f : α → D} {xs : List α} : AnyL (xs.map f) (.lst (xs.map (mD f))) := .inr (by rw [List.map_map]; rfl)
theorem fz_any (h : AnyL ds m) : m.fz = .lst ds := by
  rcases h with rfl | rfl
  · simp
  · simp
theorem fz_own {α : Type} {f : α → D} {xs : List α} : (M.lst (xs.map (mD f))).fz = .lst (xs.map f) := fz_L fun _ => fz_d
theorem atI_map {α β : Type} {f : α → β} {xs : List α} {i : Int} {v : α} (h : L2.atI xs i = some v) : L2.atI (xs.map f) i = some (f v) := by
  unfold L2.atI at *
  rw [List.length_map]
  cases h2 : L2.ixN xs.length i with
  | none => rw [h2] at h; cases h
  | some j =>
    rw [h2] at h
    have h : xs[j]? = some v := h
    show (xs.map f)[j]? = some (f v)
    rw [List.getElem?_map, h]; rfl
/-! leaves -/
theorem c_p (h : q e = some x) : cP q e = some (.d x, e) := by simp [h]
theorem c_k (h : k e = some (.val x)) : cK k e = some (.d x, e) := by simp [h]
theorem c_v (h : e[i]? = some (some (.d x))) : cK (kVar i) e = some (.d x, e) := by simp [h]
theorem c_w (h : e[i]? = some (some m)) (hf : m.fz = d) (hs : e.set i (some (.d d)) = e1) : cK (kVar i) e = some (.d d, e1) := by
  subst hs hf
  cases m with
  | d x =>
    simp [h]
    apply List.ext_getElem?
    intro j
    by_cases hj : i = j
    · subst hj
      obtain ⟨z, _⟩ := List.getElem?_eq_some_iff.mp h
      rw [List.getElem?_set_self z, h]
    · rw [List.getElem?_set_ne hj]
  | lst ms => simp [h]
  | obj c ns ms => simp [h]
theorem c_ka (h : k e = some (.at i p)) (ha : e.at i p = some m) (hf : m.fz = d) (hs : e.putAt i p (.d d) = e1) : cK k e = some (.d d, e1) := by
  subst hs hf
  unfold cK; simp only [h, ha]
/-! looks -/
theorem at0 (h : e[i]? = some (some m)) : e.at i [] = some m := by simp [h]
theorem sub_app : ∀ {p : List Nat} {m m1 : M} {j : Nat}, m.sub p = some m1 → m.sub (p ++ [j]) = m1.kids[j]?
  | [], m, m1, j, h => by
    rw [x_sub0] at h; cases h
    rw [List.nil_append, x_sub1]
    cases m.kids[j]? <;> simp
  | i :: p, m, m1, j, h => by
    rw [List.cons_append, x_sub1]
    rw [x_sub1] at h
    cases h2 : m.kids[i]? with
    | none => rw [h2] at h; cases h
    | some m2 => rw [h2] at h; exact sub_app h
theorem at1 (h : e.at i p = some m) (hk : m.kids[j]? = some m1) : e.at i (p ++ [j]) = some m1 := by
  rw [x_at] at *
  split at h
  · rw [sub_app h, hk]
  · cases h
theorem k_v (h : e[i]? = some (some (.d x))) : kVar i e = some (.val x) := by simp [h]
theorem k_ol (h : e[i]? = some (some (.lst ms))) : kVar i e = some (.at i []) := by simp [h]
theorem k_oo (h : e[i]? = some (some (.obj f ns ms))) : kVar i e = some (.at i []) := by simp [h]
theorem k_i (hk : k e = some (.val x)) (hq : q e = some (.int n)) (hx : x.ix n = some y) : kIdx k q e = some (.val y) := by simp [hk, hq, hx]
theorem k_io (hk : k e = some (.at i p)) (ha : e.at i p = some (.lst ms)) (hq : q e = some (.int n)) (hx : L2.atI ms n = some (.d y)) : kIdx k q e = some (.val y) := by
  unfold L2.atI at hx
  unfold kIdx
  simp only [hk, ha, hq]
  cases h2 : L2.ixN ms.length n with
  | none => rw [h2] at hx; cases hx
  | some j =>
    rw [h2] at hx
    have hx : ms[j]? = some (.d y) := hx
    simp only [kKid, at1 ha (show (M.lst ms).kids[j]? = _ from hx)]
theorem k_iol {ms1 : List M} (hk : k e = some (.at i p)) (ha : e.at i p = some (.lst ms)) (hq : q e = some (.int n)) (hj : L2.ixN ms.length n = some j) (hx : ms[j]? = some (.lst ms1)) : kIdx k q e = some (.at i (p ++ [j])) := by
  unfold kIdx
  simp only [hk, ha, hq, hj, kKid, at1 ha (show (M.lst ms).kids[j]? = _ from hx)]
theorem k_iw (h : e[i]? = some (some m)) (hw : AnyL ds m) (hq : q e = some (.int n)) (hx : L2.atI ds n = some y) : kIdx (kVar i) q e = some (.val y) := by
  rcases hw with rfl | rfl
  · exact k_i (k_v h) hq hx
  · exact k_io (k_ol h) (at0 h) hq (atI_map hx)
theorem k_f {c : Str} (hk : k e = some (.val (.obj c ns xs))) (hj : fIx ns f = some j) (hx : xs[j]? = some y) : kFld k f e = some (.val y) := by simp [hk, hj, hx]
theorem k_fo {c : Str} (hk : k e = some (.at i p)) (ha : e.at i p = some (.obj c ns ms)) (hj : fIx ns f = some j) (hx : ms[j]? = some (.d y)) : kFld k f e = some (.val y) := by
  unfold kFld
  simp only [hk, ha, hj, kKid, at1 ha (show (M.obj c ns ms).kids[j]? = _ from hx)]
theorem k_fol {c : Str} {ms1 : List M} (hk : k e = some (.at i p)) (ha : e.at i p = some (.obj c ns ms)) (hj : fIx ns f = some j) (hx : ms[j]? = some (.lst ms1)) : kFld k f e = some (.at i (p ++ [j])) := by
  unfold kFld
  simp only [hk, ha, hj, kKid, at1 ha (show (M.obj c ns ms).kids[j]? = _ from hx)]
theorem k_foo {c c1 : Str} {ns1 : List Str} {ms1 : List M} (hk : k e = some (.at i p)) (ha : e.at i p = some (.obj c ns ms)) (hj : fIx ns f = some j) (hx : ms[j]? = some (.obj c1 ns1 ms1)) : kFld k f e = some (.at i (p ++ [j])) := by
  unfold kFld
  simp only [hk, ha, hj, kKid, at1 ha (show (M.obj c ns ms).kids[j]? = _ from hx)]
theorem read_o {α : Type} {f : α → D} {xs : List α} (ha : e.at i p = some (.lst (xs.map (mD f)))) : (PV.at i p).read e = some (.lst (xs.map f)) := by
  unfold PV.read; simp only [ha]
  rw [show xs.map (mD f) = (xs.map f).map M.d by rw [List.map_map]; rfl, x_allD]
theorem any_read (h : e[i]? = some (some m)) (hw : AnyL ds m) : ∃ v, kVar i e = some v ∧ v.read e = some (.lst ds) := by
  rcases hw with rfl | rfl
  · exact ⟨_, k_v h, rfl⟩
  · refine ⟨_, k_ol h, ?_⟩
    unfold PV.read; simp only [at0 h, x_allD]
/-! pure -/
theorem p_k (hk : k e = some (.val x)) : pOf k e = some x := by simp [hk]
theorem p_bin {op : Operator} {n3 : Int} (h1 : q1 e = some (.int n1)) (h2 : q2 e = some (.int n2)) (h : binI op n1 n2 = some n3) : pBin op q1 q2 e = some (.int n3) := by simp [h1, h2, h]
theorem p_neg (h1 : q1 e = some (.int n1)) : pNeg q1 e = some (.int (-n1)) := by simp [h1]
theorem p_len (hk : k e = some (.val x)) (hl : x.len = some n) : pLen k e = some (.int n) := by simp [hk, hl]
theorem p_lena (hk : k e = some (.at i p)) (ha : e.at i p = some (.lst ms)) (hn : (ms.length : Int) = n) : pLen k e = some (.int n) := by
  subst hn; unfold pLen PV.len; simp only [hk, ha]
theorem p_lenf (h : e[i]? = some (some m)) (hw : m.fz = .lst ds) (hn : (ds.length : Int) = n) : pLen (kVar i) e = some (.int n) := by
  subst hn
  cases m with
  | d x =>
    have hw : x = .lst ds := by simpa [M.fz] using hw
    subst hw
    exact p_len (k_v h) rfl
  | lst ms =>
    have hw : M.fzs ms = ds := by simpa [M.fz] using hw
    exact p_lena (k_ol h) (at0 h) (by rw [← hw, M.fzs_map, List.length_map])
  | obj c ns xs => simp [M.fz] at hw
theorem p_lenw (h : e[i]? = some (some m)) (hw : AnyL ds m) (hn : (ds.length : Int) = n) : pLen (kVar i) e = some (.int n) := by
  subst hn
  rcases hw with rfl | rfl
  · exact p_len (k_v h) rfl
  · exact p_lena (k_ol h) (at0 h) (by rw [List.length_map])
theorem len_t {α : Type} {f : α → D} {xs : List α} : (D.tup (xs.map f)).len = some (xs.length : Int) := by simp
theorem len_l {α : Type} {f : α → D} {xs : List α} : (D.lst (xs.map f)).len = some (xs.length : Int) := by simp
theorem len_f {α : Type} {f : α → D} {xs : List α} : (D.frl (xs.map f)).len = some (xs.length : Int) := by simp
theorem len_m {α β : Type} {f : α → β} {xs : List α} : ((xs.map f).length : Int) = (xs.length : Int) := by simp
/-! operators -/
theorem b_i {op : Operator} {n3 : Int} (ha : a e = some (.d (.int n1), e1)) (hb : b e1 = some (.d (.int n2), e2)) (h : binI op n1 n2 = some n3) : cBin op a b e = some (.d (.int n3), e2) := by simp [ha, hb, binV, h]
theorem b_x {op : Operator} (ha : a e = some (m1, e1)) (hx : m1.fz = x) (hb : b e1 = some (m2, e2)) (hy : m2.fz = y) (h : binV op x y = some m) : cBin op a b e = some (m, e2) := by simp [ha, hb, hx, hy, h]
theorem v_catL {α : Type} {f : α → D} {xs ys zs : List α} (h : catO xs ys = some zs) : binV .Add (.lst (xs.map f)) (.lst (ys.map f)) = some (.lst (zs.map (mD f))) := by
  unfold catO at h
  split at h
  · rename_i hl
    cases h
    show (if (xs.map f).length + (ys.map f).length ≤ line then some (M.lst (((xs.map f) ++ (ys.map f)).map .d)) else none) = _
    rw [if_pos (by simpa using hl), ← List.map_append, List.map_map]; rfl
  · cases h
theorem v_catT {α : Type} {f : α → D} {xs ys zs : List α} (h : catO xs ys = some zs) : binV .Add (.tup (xs.map f)) (.tup (ys.map f)) = some (.d (.tup (zs.map f))) := by
  unfold catO at h
  split at h
  · rename_i hl
    cases h
    show (if (xs.map f).length + (ys.map f).length ≤ line then some (M.d (.tup ((xs.map f) ++ (ys.map f)))) else none) = _
    rw [if_pos (by simpa using hl), ← List.map_append]
  · cases h
theorem flat_map {α β : Type} {f : α → β} {xs : List α} : ∀ n : Nat, (List.replicate n (xs.map f)).flatten = ((List.replicate n xs).flatten).map f
  | 0 => rfl
  | n + 1 => by rw [List.replicate_succ, List.replicate_succ, List.flatten_cons, List.flatten_cons, List.map_append, flat_map n]
theorem v_repL {α : Type} {f : α → D} {xs zs : List α} (h : rpL xs n = some zs) : binV .Mult (.lst (xs.map f)) (.int n) = some (.lst (zs.map (mD f))) := by
  unfold rpL at h
  split at h
  · rename_i hl
    cases h
    show (if n.natAbs ≤ line ∧ (xs.map f).length * n.toNat ≤ line then some (M.lst ((List.replicate n.toNat (xs.map f)).flatten.map .d)) else none) = _
    rw [if_pos (by simpa using hl), flat_map, List.map_map]; rfl
  · cases h
theorem v_repT {α : Type} {f : α → D} {xs zs : List α} (h : rpT xs n = some zs) : binV .Mult (.tup (xs.map f)) (.int n) = some (.d (.tup (zs.map f))) := by
  unfold rpT at h
  split at h
  · rename_i hl
    cases h
    show (if (xs.map f) ≠ [] ∧ 2 ≤ n ∧ n ≤ 1000 ∧ (xs.map f).length ≤ 1000 then some (M.d (.tup (List.replicate n.toNat (xs.map f)).flatten)) else if n = 1 then some (M.d (.tup (xs.map f))) else none) = _
    rw [if_pos (by refine ⟨?_, by simpa using hl.2⟩; intro z; exact hl.1 (by simpa using congrArg List.length z)), flat_map]
  · split at h
    · rename_i h1
      cases h
      subst h1
      show (if (xs.map f) ≠ [] ∧ (2 : Int) ≤ 1 ∧ (1 : Int) ≤ 1000 ∧ (xs.map f).length ≤ 1000 then some (M.d (.tup (List.replicate (1 : Int).toNat (xs.map f)).flatten)) else if (1 : Int) = 1 then some (M.d (.tup (xs.map f))) else none) = _
      rw [if_neg (fun z => absurd z.2.1 (by decide)), if_pos rfl]
    · cases h
theorem mul_r (h : n2.natAbs < 2 ^ 64) : binI .Mult n1 n2 = some (n1 * n2) := by
  show (if MulOk n1 n2 then some (n1 * n2) else none) = _
  rw [if_pos (mulR n1 n2 h)]
theorem mul_l (h : n1.natAbs < 2 ^ 64) : binI .Mult n1 n2 = some (n1 * n2) := by
  show (if MulOk n1 n2 then some (n1 * n2) else none) = _
  rw [if_pos (mulL n1 n2 h)]
theorem div_r (h : 0 < n2) (h2 : n2 < 2 ^ 64) : binI .FloorDiv n1 n2 = some (n1 / n2) := by
  show (if DivOk n1 n2 then some (n1 / n2) else none) = _
  rw [if_pos (divOk h h2)]
theorem mod_r (h : 0 < n2) : binI .Mod n1 n2 = some (n1 % n2) := by simp [binI, h]
theorem c_neg (ha : a e = some (.d (.int n), e1)) : cNeg a e = some (.d (.int (-n)), e1) := by simp [ha]
theorem c_cmp {op : CmpOp} {z : Bool} (ha : a e = some (m1, e1)) (hx : m1.fz = x) (hb : b e1 = some (m2, e2)) (hy : m2.fz = y) (h : cmpD op x y = some z) : cCmp op a b e = some (.d (.bl z), e2) := by simp [ha, hb, hx, hy, h]
theorem c_in {z : Bool} (ha : a e = some (m1, e1)) (hx : m1.fz = x) (hb : b e1 = some (m2, e2)) (hy : m2.fz = y) (hi : y.items = some ds) (h : inD x ds = some z) : cIn false a b e = some (.d (.bl z), e2) := by simp [cIn, ha, hb, hx, hy, hi, h]
theorem c_ni {z : Bool} (ha : a e = some (m1, e1)) (hx : m1.fz = x) (hb : b e1 = some (m2, e2)) (hy : m2.fz = y) (hi : y.items = some ds) (h : inD x ds = some z) : cIn true a b e = some (.d (.bl (!z)), e2) := by simp [cIn, ha, hb, hx, hy, hi, h]
theorem c_inK {z : Bool} {v : PV} (hq : q e = some x) (hk : k e = some v) (hr : v.read e = some y) (hi : y.items = some ds) (h : inD x ds = some z) : cInK false q k e = some (.d (.bl z), e) := by simp only [cInK, hq, hk, hr, hi, h]; rfl
theorem c_niK {z : Bool} {v : PV} (hq : q e = some x) (hk : k e = some v) (hr : v.read e = some y) (hi : y.items = some ds) (h : inD x ds = some z) : cInK true q k e = some (.d (.bl (!z)), e) := by simp only [cInK, hq, hk, hr, hi, h]; rfl
theorem c_inW {z : Bool} (hq : q e = some x) (h1 : e[i]? = some (some m)) (hw : AnyL ds m) (h : inD x ds = some z) : cInK false q (kVar i) e = some (.d (.bl z), e) := by
  obtain ⟨v, h2, h3⟩ := any_read h1 hw; exact c_inK hq h2 h3 rfl h
theorem c_niW {z : Bool} (hq : q e = some x) (h1 : e[i]? = some (some m)) (hw : AnyL ds m) (h : inD x ds = some z) : cInK true q (kVar i) e = some (.d (.bl (!z)), e) := by
  obtain ⟨v, h2, h3⟩ := any_read h1 hw; exact c_niK hq h2 h3 rfl h
theorem c_and {z w : Bool} (ha : a e = some (.d (.bl z), e1)) (hb : z = true → b e1 = some (.d (.bl w), e1)) : cAnd a b e = some (.d (.bl (z && w)), e1) := by
  simp only [x_cAnd, ha]
  cases z with
  | true => exact hb rfl
  | false => rfl
theorem c_or {z w : Bool} (ha : a e = some (.d (.bl z), e1)) (hb : z = false → b e1 = some (.d (.bl w), e1)) : cOr a b e = some (.d (.bl (z || w)), e1) := by
  simp only [x_cOr, ha]
  cases z with
  | false => exact hb rfl
  | true => rfl
theorem c_not {z : Bool} (ha : a e = some (.d (.bl z), e1)) : cNot a e = some (.d (.bl (!z)), e1) := by simp [ha]
theorem c_if {t : ST} {z : Bool} (ht : t e = some (z, e1)) (h1 : z = true → a e1 = some (m, e2)) (h2 : z = false → b e1 = some (m, e2)) : cIf t a b e = some (m, e2) := by
  simp only [x_cIf, ht]
  cases z with
  | true => exact h1 rfl
  | false => exact h2 rfl
/-! rows -/
def EvF (cs : List SE) (e : Env) (ds : List D) (e' : Env) : Prop := ∃ ms, evL cs e = some (ms, e') ∧ M.fzs ms = ds
theorem ef0 : EvF [] e [] e := ⟨[], rfl, fzs0⟩
theorem ef1 {cs : List SE} (hc : c e = some (m, e1)) (hf : m.fz = d) (hr : EvF cs e1 ds e2) : EvF (c :: cs) e (d :: ds) e2 := by
  obtain ⟨ms, h1, h2⟩ := hr
  exact ⟨m :: ms, by simp [hc, h1], fzs1 hf h2⟩
theorem c_tup {cs : List SE} (h : EvF cs e ds e1) (hl : ds.length ≤ 1000) : cTup cs e = some (.d (.tup ds), e1) := by
  obtain ⟨ms, h1, rfl⟩ := h
  have : ms.length ≤ line := by rw [M.fzs_map, List.length_map] at hl; rw [line_nat]; omega
  simp [h1, this]
theorem em0 : evL [] e = some ([], e) := rfl
theorem em1 {cs : List SE} (hc : c e = some (m, e1)) (hr : evL cs e1 = some (ms, e2)) : evL (c :: cs) e = some (m :: ms, e2) := by simp [hc, hr]
theorem c_lst {cs : List SE} (h : evL cs e = some (ms, e1)) (hl : ms.length ≤ 1000) : cLst cs e = some (.lst ms, e1) := by
  have : ms.length ≤ line := by rw [line_nat]; omega
  simp [h, this]
theorem c_bK {v : PV} {F : D → Option M} (hk : k e = some v) (hr : v.read e = some x) (h : F x = some m) : bK F k e = some (m, e) := by simp only [x_bK, hk, hr, h]
theorem c_bW {F : D → Option M} (h1 : e[i]? = some (some m1)) (hw : AnyL ds m1) (h : F (.lst ds) = some m) : bK F (kVar i) e = some (m, e) := by
  obtain ⟨v, h2, h3⟩ := any_read h1 hw; exact c_bK h2 h3 h
theorem c_bV {F : List D → Option M} {cs : List SE} (h : EvF cs e ds e1) (hf : F ds = some m) : bV F cs e = some (m, e1) := by
  obtain ⟨ms, h1, rfl⟩ := h; simp [h1, hf]
theorem c_ix (ha : a e = some (m, e1)) (hx : m.fz = x) (hb : b e1 = some (.d (.int n), e2)) (h : x.ix n = some y) : cIx a b e = some (.d y, e2) := by simp [ha, hb, hx, h]
theorem c_ixv (h0 : e[i]? = some (some m)) (hb : b e = some (.d (.int n), e1)) (h1 : e1[i]? = some (some (.d x))) (h : x.ix n = some y) : cIxV i b e = some (.d y, e1) := by simp [h0, hb, h1, h]
theorem c_ixo (h0 : e[i]? = some (some m)) (hb : b e = some (.d (.int n), e1)) (h1 : e1[i]? = some (some (.lst ms))) (h : L2.atI ms n = some (.d y)) : cIxV i b e = some (.d y, e1) := by simp [h0, hb, h1, h]
theorem c_ixw (h0 : e[i]? = some (some m)) (hb : b e = some (.d (.int n), e1)) (h1 : e1[i]? = some (some m1)) (hw : AnyL ds m1) (h : L2.atI ds n = some y) : cIxV i b e = some (.d y, e1) := by
  rcases hw with rfl | rfl
  · exact c_ixv h0 hb h1 h
  · exact c_ixo h0 hb h1 (atI_map h)
theorem o_n : optI none e = some (none, e) := rfl
theorem o_s (hc : c e = some (.d (.int n), e1)) : optI (some c) e = some (some n, e1) := by unfold optI; simp only [hc]
theorem c_sl {lo hi : Option SE} {l h : Option Int} (ha : a e = some (m1, e1)) (hx : m1.fz = x) (hl : optI lo e1 = some (l, e2)) (hh : optI hi e2 = some (h, e3)) (hv : sliceV x l h = some m) : cSl a lo hi e = some (m, e3) := by
  unfold cSl; simp only [ha, hx, hl, hh, hv]
theorem cut_map {α β : Type} {f : α → β} {xs : List α} {lo hi : Option Int} : cut (xs.map f) lo hi = (cut xs lo hi).map f := by unfold cut; rw [List.length_map, List.map_take, List.map_drop]
theorem sl_t {α : Type} {f : α → D} {xs : List α} {lo hi : Option Int} : sliceV (.tup (xs.map f)) lo hi = some (.d (.tup ((cut xs lo hi).map f))) := by
  show some (M.d (.tup (cut (xs.map f) lo hi))) = _
  rw [cut_map]
theorem sl_l {α : Type} {f : α → D} {xs : List α} {lo hi : Option Int} : sliceV (.lst (xs.map f)) lo hi = some (.lst ((cut xs lo hi).map (mD f))) := by
  show some (M.lst ((cut (xs.map f) lo hi).map .d)) = _
  rw [cut_map, List.map_map]; rfl
theorem sl_f {α : Type} {f : α → D} {xs : List α} {lo hi : Option Int} : sliceV (.frl (xs.map f)) lo hi = some (.lst ((cut xs lo hi).map (mD f))) := by
  show some (M.lst ((cut (xs.map f) lo hi).map .d)) = _
  rw [cut_map, List.map_map]; rfl
theorem c_fld {c : Str} (ha : a e = some (m, e1)) (hx : m.fz = .obj c ns xs) (hj : fIx ns f = some j) (hy : xs[j]? = some y) : cFld a f e = some (.d y, e1) := by
  unfold cFld; simp only [ha, hx, hj, hy]
/-! calls -/
section
variable {sa : SA} {r : List SA} {av : AV} {avs : List AV} {F : Fn} {mu : List Nat} {dn : List Int} {os : List M}
theorem a0 : evA [] e = some ([], e) := rfl
theorem a1 (ha : sa e = some (av, e1)) (hr : evA r e1 = some (avs, e2)) : evA (sa :: r) e = some (av :: avs, e2) := by simp [ha, hr]
theorem a_v (hc : c e = some (m, e1)) : aV c e = some (.m m, e1) := by simp [hc]
theorem a_ld (h : e[i]? = some (some (.d x))) : aL i e = some (.m (.d x), e) := by simp [h]
theorem a_ll (h : e[i]? = some (some (.lst ms))) : aL i e = some (.lend i, e) := by simp [h]
theorem a_lo {c : Str} (h : e[i]? = some (some (.obj c ns ms))) : aL i e = some (.lend i, e) := by simp [h]
theorem c_call (hA : evA r e = some (avs, e1)) (hT : takeA avs e1 = some (ms, e2)) (hR : F (ms ++ dn.map fun i => .d (.int i)) = some (m, os)) (hB : backA avs mu os e2 = e3) : cCall F mu dn r e = some (m, e3) := by
  subst hB; simp [hA, hT, hR]
theorem c_meth {fm c : Str} {tb : Str → Option Mt} {t : Mt} (ha : sa e = some (av, e1)) (hc : av.cls fm e1 = some c) (ht : tb c = some t) (hA : evA r e1 = some (avs, e2)) (hT : takeA (av :: avs) e2 = some (ms, e3)) (hR : t.r (ms ++ t.dn.map fun i => .d (.int i)) = some (m, os)) {e4 : Env} (hB : backA (av :: avs) t.mu os e3 = e4) : cMeth fm tb sa r e = some (m, e4) := by
  subst hB; simp only [x_cMeth, ha, hc, ht, hA, hT, hR]
theorem c_make {c : Str} {o : M} (hA : evA r e = some (avs, e1)) (hT : takeA avs e1 = some (ms, e2)) (hR : F (.obj c [] [] :: (ms ++ dn.map fun i => .d (.int i))) = some (.d .non, [o])) : cMake c F dn r e = some (o, e2) := by
  simp only [x_cMake, hA, hT, hR]
end
/-! tests -/
theorem t_v {z : Bool} (hc : c e = some (m, e1)) (hx : m.fz = x) (ht : truth x = some z) : tV c e = some (z, e1) := by simp [hc, hx, ht]
theorem t_b {z : Bool} (hc : c e = some (.d (.bl z), e1)) : tB c e = some (z, e1) := by simp [hc]
theorem t_k {z : Bool} {v : PV} (hk : k e = some v) (hr : v.read e = some x) (ht : truth x = some z) : tK k e = some (z, e) := by simp only [x_tK, hk, hr, ht]
theorem t_w {z : Bool} (h1 : e[i]? = some (some m1)) (hw : AnyL ds m1) (ht : truth (.lst ds) = some z) : tK (kVar i) e = some (z, e) := by
  obtain ⟨v, h2, h3⟩ := any_read h1 hw; exact t_k h2 h3 ht
theorem t_and {s t : ST} {z w : Bool} (ha : s e = some (z, e1)) (hb : z = true → t e1 = some (w, e1)) : tAnd s t e = some (z && w, e1) := by
  simp only [x_tAnd, ha]
  cases z with
  | true => exact hb rfl
  | false => rfl
theorem t_or {s t : ST} {z w : Bool} (ha : s e = some (z, e1)) (hb : z = false → t e1 = some (w, e1)) : tOr s t e = some (z || w, e1) := by
  simp only [x_tOr, ha]
  cases z with
  | false => exact hb rfl
  | true => rfl
theorem t_not {s : ST} {z : Bool} (ha : s e = some (z, e1)) : tNot s e = some (!z, e1) := by simp [ha]
theorem tr_l {α β : Type} {f : α → β} {xs : List α} : (!(xs.map f).isEmpty) = !xs.isEmpty := by cases xs <;> rfl
theorem tr_ti {α : Type} {f : α → D} {xs : List α} : truth (.tup (xs.map f)) = some (!xs.isEmpty) := by simp
theorem tr_li {α : Type} {f : α → D} {xs : List α} : truth (.lst (xs.map f)) = some (!xs.isEmpty) := by simp
/-! walks -/
theorem i_v (hc : c e = some (m, e1)) (hx : m.fz = x) (hi : x.items = some ds) : iV c e = some (ds, e1) := by simp [hc, hx, hi]
theorem i_r1 {cs : List SE} {xs : List Int} (hb : EvF cs e [.int n] e1) (h : rngO 0 n = some xs) : iRng cs e = some (xs.map eI, e1) := by
  obtain ⟨ms, h1, h2⟩ := hb
  unfold rngO at h
  split at h
  · rename_i hs
    cases h
    simp only [x_iRng, h1, h2]
    show (match (if (smallR 0 n && (!false || decide (n.toNat ≤ line))) = true then some ((rangeI 0 n).map D.int) else none) with | some xs => some (xs, e1) | none => none) = _
    rw [if_pos (by rw [hs]; rfl)]
  · cases h
theorem i_r2 {cs : List SE} {xs : List Int} (hb : EvF cs e [.int n1, .int n2] e1) (h : rngO n1 n2 = some xs) : iRng cs e = some (xs.map eI, e1) := by
  obtain ⟨ms, h1, h2⟩ := hb
  unfold rngO at h
  split at h
  · rename_i hs
    cases h
    simp only [x_iRng, h1, h2]
    show (match (if (smallR n1 n2 && (!false || decide ((n2 - n1).toNat ≤ line))) = true then some ((rangeI n1 n2).map D.int) else none) with | some xs => some (xs, e1) | none => none) = _
    rw [if_pos (by rw [hs]; rfl)]
  · cases h
theorem i_rs {cs : List SE} {n3 : Int} {xs : List Int} (hb : EvF cs e [.int n1, .int n2, .int n3] e1) (h : stpO n1 n2 n3 = some xs) : iRngC cs e = some (xs.map eI, e1) := by
  obtain ⟨ms, h1, h2⟩ := hb
  unfold stpO at h
  split at h
  · rename_i hs
    cases h
    simp only [x_iRngC, h1, h2]
    unfold rangeC
    simp only
    rw [if_pos hs]
  · cases h
theorem i_rd {cs : List SE} {xs : List Int} (hb : EvF cs e [.int n1, .int n2, .int (-1)] e1) (h : dwnO n1 n2 = some xs) : iRngC cs e = some (xs.map eI, e1) := by
  obtain ⟨ms, h1, h2⟩ := hb
  unfold dwnO at h
  split at h
  · rename_i hs
    cases h
    simp only [x_iRngC, h1, h2]
    unfold rangeC
    simp only
    rw [if_neg (fun z => absurd z.2.1 (by omega)), if_pos ⟨hs, trivial⟩]
  · cases h
theorem lr1 {xs : List Int} (h : lrO 0 n = some xs) : lstRange [.int n] = some (.lst (xs.map (mD eI))) := by
  unfold lrO at h
  split at h
  · rename_i hs
    cases h
    have hs : (smallR 0 n && decide (n.toNat ≤ line)) = true := by simpa using hs
    show (match (if (smallR 0 n && (!true || decide (n.toNat ≤ line))) = true then some ((rangeI 0 n).map D.int) else none) with | some ys => some (M.lst (ys.map M.d)) | none => none) = _
    rw [if_pos (by simpa using hs)]
    show some (M.lst (((rangeI 0 n).map D.int).map M.d)) = _
    rw [List.map_map]; simp only [Int.sub_zero] at *; rfl
  · cases h
theorem lr2 {xs : List Int} (h : lrO n1 n2 = some xs) : lstRange [.int n1, .int n2] = some (.lst (xs.map (mD eI))) := by
  unfold lrO at h
  split at h
  · rename_i hs
    cases h
    show (match (if (smallR n1 n2 && (!true || decide ((n2 - n1).toNat ≤ line))) = true then some ((rangeI n1 n2).map D.int) else none) with | some ys => some (M.lst (ys.map M.d)) | none => none) = _
    rw [if_pos (by simpa using hs)]
    show some (M.lst (((rangeI n1 n2).map D.int).map M.d)) = _
    rw [List.map_map]; rfl
  · cases h
theorem zip_map2 {α β γ δ : Type} {f : α → γ} {g : β → δ} : ∀ {xs : List α} {ys : List β}, (xs.map f).zip (ys.map g) = (xs.zip ys).map fun p => (f p.1, g p.2)
  | [], ys => rfl
  | x :: xs, [] => by simp
  | x :: xs, y :: ys => by simp [zip_map2]
theorem enum_e {α : Type} {f : α → D} {xs : List α} : enumD (xs.map f) = (enumI xs).map (eP2 eI f) := by
  unfold enumD enumI
  rw [List.length_map, show List.range xs.length = (List.range xs.length).map id by simp, zip_map2, List.map_map, List.map_map]
  simp only [List.map_id]
  rfl
theorem i_en {α : Type} {f : α → D} {xs : List α} (hc : c e = some (m, e1)) (hx : m.fz = x) (hi : x.items = some (xs.map f)) : iEnum c e = some ((enumI xs).map (eP2 eI f), e1) := by
  simp [hc, hx, hi, enum_e]
theorem zip_t {α β : Type} {f : α → D} {g : β → D} {xs : List α} {ys : List β} {zs : List (α × β)} (h : zipO xs ys = some zs) : zipOk (.tup (xs.map f)) (.tup (ys.map g)) = some (zs.map (eP2 f g)) := by
  unfold zipO at h
  split at h
  · rename_i hl
    cases h
    show (if (xs.map f).length = (ys.map g).length then some (zipD (xs.map f) (ys.map g)) else none) = _
    rw [if_pos (by simpa using hl)]
    unfold zipD
    rw [zip_map2, List.map_map]; rfl
  · cases h
theorem zip_l {α β : Type} {f : α → D} {g : β → D} {xs : List α} {ys : List β} {zs : List (α × β)} (h : zipO xs ys = some zs) : zipOk (.lst (xs.map f)) (.lst (ys.map g)) = some (zs.map (eP2 f g)) := by
  unfold zipO at h
  split at h
  · rename_i hl
    cases h
    show (if (xs.map f).length = (ys.map g).length then some (zipD (xs.map f) (ys.map g)) else none) = _
    rw [if_pos (by simpa using hl)]
    unfold zipD
    rw [zip_map2, List.map_map]; rfl
  · cases h
theorem i_zip (ha : a e = some (m1, e1)) (hx : m1.fz = x) (hb : b e1 = some (m2, e2)) (hy : m2.fz = y) (h : zipOk x y = some ds) : iZip a b e = some (ds, e2) := by simp [ha, hb, hx, hy, h]
theorem i_rev {α : Type} {f : α → D} {xs : List α} (hc : c e = some (m, e1)) (hx : m.fz = x) (hi : x.items = some (xs.map f)) : iRev c e = some (xs.reverse.map f, e1) := by
  simp [hc, hx, hi]
/-! statements -/
theorem s_asg (hc : c e = some (m, e1)) (hs : e1.set i (some m) = e2) : sAsg i c e = some (.nx e2) := by subst hs; simp [hc]
theorem s_tgt {g : Tg} (hc : c e = some (m, e1)) (hx : m.fz = x) (hg : g.set x e1 = some e2) : sTgt g c e = some (.nx e2) := by simp [hc, hx, hg]
theorem s_drop (hc : c e = some (m, e1)) : sDrop c e = some (.nx e1) := by simp [hc]
theorem s_ast {t : ST} {z : Bool} (ht : t e = some (z, e1)) (hz : z = true) : sAssert t e = some (.nx e1) := by subst hz; simp [ht]
theorem s_aug {op : Operator} {n3 : Int} (h : e[i]? = some (some (.d (.int n1)))) (hc : c e = some (.d (.int n2), e1)) (hb : binI op n1 n2 = some n3) (hs : e1.set i (some (.d (.int n3))) = e2) : sAug i op c e = some (.nx e2) := by
  subst hs; simp [h, hc, hb]
theorem s_app {α : Type} {mf : α → M} {xs ys : List α} {v : α} (h : e[i]? = some (some (.lst ms))) (hc : c e = some (mf v, e1)) (h1 : e1[i]? = some (some (.lst (xs.map mf)))) (hp : pushO xs v = some ys) (hs : e1.set i (some (.lst (ys.map mf))) = e2) : sApp i c e = some (.nx e2) := by
  subst hs
  unfold pushO at hp
  split at hp
  · rename_i hl
    cases hp
    have : (xs.map mf).length < line := by rw [List.length_map]; exact hl
    simp only [x_sApp, x_slot, h, hc, h1, this, if_true, List.map_append, List.map_cons, List.map_nil]
  · cases hp
theorem s_appK {α : Type} {f : α → D} {xs ys : List α} {v : α} (hk : k e = some (.at i p)) (hq : q e = some (f v)) (ha : e.at i p = some (.lst (xs.map (mD f)))) (hp : pushO xs v = some ys) (hs : e.putAt i p (.lst (ys.map (mD f))) = e2) : sAppK k q e = some (.nx e2) := by
  subst hs
  unfold pushO at hp
  split at hp
  · rename_i hl
    cases hp
    have : (xs.map (mD f)).length < line := by rw [List.length_map]; exact hl
    simp only [sAppK, hk, hq, ha, this, if_true, List.map_append, List.map_cons, List.map_nil]
  · cases hp
theorem s_idx {α : Type} {mf : α → M} {xs ys : List α} {v : α} (hc : c e = some (mf v, e1)) (hk : k e1 = some (.at i p)) (hq : q e1 = some (.int n)) (ha : e1.at i p = some (.lst (xs.map mf))) (hp : setO xs n v = some ys) (hs : e1.putAt i p (.lst (ys.map mf)) = e2) : sIdx k q c e = some (.nx e2) := by
  subst hs
  unfold setO at hp
  unfold sIdx
  simp only [hc, hk, hq, ha, x_setI, List.length_map]
  cases hj : L2.ixN xs.length n with
  | none => rw [hj] at hp; cases hp
  | some j =>
    rw [hj] at hp
    cases hp
    simp only [List.map_set]
theorem s_fld {fa : Str → Str → Bool} (hc : c e = some (m, e1)) (hk : k e1 = some (.at i p)) (ha : e1.at i p = some m1) (hm : m1.setF fa f m = some m2) (hs : e1.putAt i p m2 = e2) : sFld fa k f c e = some (.nx e2) := by
  subst hs; unfold sFld; simp only [hc, hk, ha, hm]
end
/-! ### data that may be compared -/
structure PyE {α : Type} [DecidableEq α] (enc : α → D) (dp : Nat) where
  py : α → PyData
  h : ∀ x, (enc x).py = some (py x)
  pl : ∀ x, (py x).plain = true
  de : ∀ x, (py x).depth ≤ dp
  eq : ∀ x y, PyData.eqv (py x) (py y) = decide (x = y)
def peI : PyE eI 0 := ⟨.int, fun x => by simp [D.py], fun x => by simp [PyData.plain], fun x => by simp [PyData.depth], fun x y => by
  simp only [PyData.eqv]
  by_cases h : x = y <;> simp [h]⟩
def peB : PyE eB 0 := ⟨.bool, fun x => by simp [D.py], fun x => by simp [PyData.plain], fun x => by simp [PyData.depth], fun x y => by
  simp only [PyData.eqv]
  cases x <;> cases y <;> rfl⟩
section
variable {α β γ δ : Type} [DecidableEq α] [DecidableEq β] [DecidableEq γ] [DecidableEq δ] {f : α → D} {g : β → D} {h : γ → D} {i : δ → D} {n n1 n2 n3 : Nat}
theorem pys_e (P : PyE f n) : ∀ xs : List α, D.pys (xs.map f) = some (xs.map P.py)
  | [] => by simp [D.pys]
  | x :: r => by simp [D.pys, P.h, pys_e P r]
theorem plain_e (P : PyE f n) : ∀ xs : List α, PyData.plainAll (xs.map P.py) = true
  | [] => by simp [PyData.plainAll]
  | x :: r => by simp [PyData.plainAll, P.pl, plain_e P r]
theorem depth_e (P : PyE f n) : ∀ xs : List α, PyData.depthAll (xs.map P.py) ≤ n
  | [] => by simp [PyData.depthAll]
  | x :: r => by
    have h1 := P.de x
    have h2 := depth_e P r
    simp only [List.map_cons, PyData.depthAll]; omega
theorem eqv_e (P : PyE f n) : ∀ xs ys : List α, PyData.eqvAll (xs.map P.py) (ys.map P.py) = decide (xs = ys)
  | [], [] => by simp [PyData.eqvAll]
  | [], y :: ys => by simp [PyData.eqvAll]
  | x :: xs, [] => by simp [PyData.eqvAll]
  | x :: xs, y :: ys => by
    simp only [List.map_cons, PyData.eqvAll, P.eq, eqv_e P xs ys]
    by_cases h : x = y <;> simp [h]
def peT (P : PyE f n) : PyE (eT f) (n + 1) := ⟨fun xs => .tuple (xs.map P.py), fun xs => by simp [D.py, pys_e P], fun xs => by simp [PyData.plain, plain_e P], fun xs => by have := depth_e P xs; simp only [PyData.depth]; omega, fun x y => by simp [PyData.eqv, eqv_e P]⟩
def peL (P : PyE f n) : PyE (eL f) (n + 1) := ⟨fun xs => .list (xs.map P.py), fun xs => by simp [D.py, pys_e P], fun xs => by simp [PyData.plain, plain_e P], fun xs => by have := depth_e P xs; simp only [PyData.depth]; omega, fun x y => by simp [PyData.eqv, eqv_e P]⟩
def peP1 (P : PyE f n) : PyE (eP1 f) (n + 1) := ⟨fun x => .tuple [P.py x], fun x => by simp [D.py, D.pys, P.h], fun x => by simp [PyData.plain, PyData.plainAll, P.pl], fun x => by have := P.de x; simp only [PyData.depth, PyData.depthAll]; omega, fun x y => by simp [PyData.eqv, PyData.eqvAll, P.eq]⟩
def peP2 (P : PyE f n) (Q : PyE g n1) : PyE (eP2 f g) (max n n1 + 1) := ⟨fun x => .tuple [P.py x.1, Q.py x.2], fun x => by simp [D.py, D.pys, P.h, Q.h], fun x => by simp [PyData.plain, PyData.plainAll, P.pl, Q.pl], fun x => by have := P.de x.1; have := Q.de x.2; simp only [PyData.depth, PyData.depthAll]; omega, fun x y => by
  obtain ⟨x1, x2⟩ := x
  obtain ⟨y1, y2⟩ := y
  simp only [PyData.eqv, PyData.eqvAll, P.eq, Q.eq, Prod.mk.injEq, Bool.and_true, Bool.decide_and]⟩
def peP3 (P : PyE f n) (Q : PyE g n1) (S : PyE h n2) : PyE (eP3 f g h) (max n (max n1 n2) + 1) := ⟨fun x => .tuple [P.py x.1, Q.py x.2.1, S.py x.2.2], fun x => by simp [D.py, D.pys, P.h, Q.h, S.h], fun x => by simp [PyData.plain, PyData.plainAll, P.pl, Q.pl, S.pl], fun x => by have := P.de x.1; have := Q.de x.2.1; have := S.de x.2.2; simp only [PyData.depth, PyData.depthAll]; omega, fun x y => by
  obtain ⟨x1, x2, x3⟩ := x
  obtain ⟨y1, y2, y3⟩ := y
  simp only [PyData.eqv, PyData.eqvAll, P.eq, Q.eq, S.eq, Prod.mk.injEq, Bool.and_true, Bool.decide_and]⟩
def peP4 (P : PyE f n) (Q : PyE g n1) (S : PyE h n2) (U : PyE i n3) : PyE (eP4 f g h i) (max n (max n1 (max n2 n3)) + 1) := ⟨fun x => .tuple [P.py x.1, Q.py x.2.1, S.py x.2.2.1, U.py x.2.2.2], fun x => by simp [D.py, D.pys, P.h, Q.h, S.h, U.h], fun x => by simp [PyData.plain, PyData.plainAll, P.pl, Q.pl, S.pl, U.pl], fun x => by have := P.de x.1; have := Q.de x.2.1; have := S.de x.2.2.1; have := U.de x.2.2.2; simp only [PyData.depth, PyData.depthAll]; omega, fun x y => by
  obtain ⟨x1, x2, x3, x4⟩ := x
  obtain ⟨y1, y2, y3, y4⟩ := y
  simp only [PyData.eqv, PyData.eqvAll, P.eq, Q.eq, S.eq, U.eq, Prod.mk.injEq, Bool.and_true, Bool.decide_and]⟩
theorem py_nn (P : PyE f n) (hf : ∀ x, f x ≠ .non) (x : α) : P.py x ≠ .none := by
  intro z
  have h1 := P.h x
  rw [z] at h1
  have := hf x
  revert h1 this
  cases f x <;> simp [D.py]
  · intro h; split at h <;> simp at h
  · intro h; split at h <;> simp at h
theorem eqv_nn (P : PyE f n) (hf : ∀ x, f x ≠ .non) (x : α) : PyData.eqv .none (P.py x) = false ∧ PyData.eqv (P.py x) .none = false := by
  have := py_nn P hf x
  cases h : P.py x <;> simp_all [PyData.eqv]
theorem okD_e (P : PyE f n) (hn : n ≤ 32) (x : α) : okD (P.py x) = true := by
  have := P.de x
  simp only [okD, P.pl, Bool.true_and, decide_eq_true_eq]; omega
theorem eq_e (P : PyE f n) (hn : n ≤ 32) (x y : α) : eqD (f x) (f y) = some (decide (x = y)) := by
  simp [eqD, P.h, okD_e P hn, P.eq]
theorem ne_e (P : PyE f n) (hn : n ≤ 32) (x y : α) : cmpD .NotEq (f x) (f y) = some (!decide (x = y)) := by
  rw [cmp_ne, eq_e P hn]
/-- .. where None may stand -/
theorem eq_o (P : PyE f n) (hf : ∀ x, f x ≠ .non) (hn : n ≤ 32) (x y : Option α) : eqD (eO f x) (eO f y) = some (decide (x = y)) := by
  have o0 : okD .none = true := by simp [okD, PyData.plain, PyData.depth]
  cases x with
  | none => cases y with
    | none => simp [eqD, D.py, o0, PyData.eqv]
    | some y => simp [eqD, D.py, o0, P.h, okD_e P hn, (eqv_nn P hf y).1]
  | some x => cases y with
    | none => simp [eqD, D.py, o0, P.h, okD_e P hn, (eqv_nn P hf x).2]
    | some y => simp [eqD, P.h, okD_e P hn, P.eq]
theorem ne_o (P : PyE f n) (hf : ∀ x, f x ≠ .non) (hn : n ≤ 32) (x y : Option α) : cmpD .NotEq (eO f x) (eO f y) = some (!decide (x = y)) := by
  rw [cmp_ne, eq_o P hf hn]
def peO (P : PyE f n) (hf : ∀ x, f x ≠ .non) : PyE (eO f) n where
  py := fun x => match x with | none => .none | some v => P.py v
  h := fun x => by cases x with | none => simp [D.py] | some v => exact P.h v
  pl := fun x => by cases x with | none => simp [PyData.plain] | some v => exact P.pl v
  de := fun x => by cases x with | none => simp [PyData.depth] | some v => exact P.de v
  eq := fun x y => by
    cases x with
    | none => cases y with
      | none => simp [PyData.eqv]
      | some y => simp [(eqv_nn P hf y).1]
    | some x => cases y with
      | none => simp [(eqv_nn P hf x).2]
      | some y => simp [P.eq]
theorem is_o (hf : ∀ x, f x ≠ .non) (x : Option α) : cmpD .Is (eO f x) .non = some x.isNone := by
  cases x with
  | none => rfl
  | some x =>
    have := hf x
    rw [x_cmpIs]
    cases h : f x <;> simp_all
theorem isn_o (hf : ∀ x, f x ≠ .non) (x : Option α) : cmpD .IsNot (eO f x) .non = some x.isSome := by
  cases x with
  | none => rfl
  | some x =>
    have := hf x
    rw [x_cmpIsN]
    cases h : f x <;> simp_all
theorem all_ok_e (P : PyE f n) (hn : n ≤ 32) (xs : List α) : (xs.map P.py).all okD = true := by
  rw [List.all_eq_true]
  rintro _ hx
  obtain ⟨a, _, rfl⟩ := List.mem_map.mp hx
  exact okD_e P hn a
theorem in_e (P : PyE f n) (hn : n ≤ 32) (x : α) (xs : List α) : inD (f x) (xs.map f) = some (decide (x ∈ xs)) := by
  simp only [inD, cmpAll, P.h, pys_e P, okD_e P hn, all_ok_e P hn, Bool.and_self, if_true, Option.some.injEq]
  induction xs with
  | nil => simp
  | cons y r ih =>
    simp only [List.map_cons, List.any_cons, P.eq, ih, List.mem_cons]
    by_cases e : x = y
    · subst e; simp
    · have : (y = x) = False := by simpa using fun z : y = x => e z.symm
      simp [e, this]
theorem idx_e (P : PyE f n) (hn : n ≤ 32) {x : α} {xs : List α} {j : Int} (h : idxO x xs = some j) : mthD "index" (.tup (xs.map f)) [f x] = some (.d (.int j)) ∧ mthD "index" (.lst (xs.map f)) [f x] = some (.d (.int j)) := by
  unfold idxO at h
  split at h
  · rename_i hx
    cases h
    have key : idxD (f x) (xs.map f) = some (xs.idxOf x) := by
      simp only [idxD, cmpAll, P.h, pys_e P, okD_e P hn, all_ok_e P hn, Bool.and_self, if_true]
      induction xs with
      | nil => simp at hx
      | cons y r ih =>
        simp only [List.map_cons, List.findIdx?_cons, P.eq]
        by_cases e : y = x
        · subst e; simp
        · have hr : x ∈ r := by
            rcases List.mem_cons.mp hx with z | z
            · exact absurd z.symm e
            · exact z
          have e2 : (y == x) = false := by simpa using e
          rw [ih hr]
          simp [e, e2, List.idxOf_cons]
    constructor <;> simp [mthD, D.items, key]
  · cases h
theorem cnt_e (P : PyE f n) (hn : n ≤ 32) (x : α) (xs : List α) : mthD "count" (.tup (xs.map f)) [f x] = some (.d (.int (xs.count x : Int))) ∧ mthD "count" (.lst (xs.map f)) [f x] = some (.d (.int (xs.count x : Int))) := by
  have key : cntD (f x) (xs.map f) = some (xs.count x) := by
    simp only [cntD, cmpAll, P.h, pys_e P, okD_e P hn, all_ok_e P hn, Bool.and_self, if_true, Option.some.injEq]
    induction xs with
    | nil => simp
    | cons y r ih =>
      simp only [List.map_cons, List.countP_cons, ih, List.count_cons, P.eq]
      by_cases e : y = x
      · subst e; simp
      · simp [e]
  constructor <;> simp [mthD, D.items, key]
end
theorem c_mK {e : Env} {k : SK} {q : SP} {v : PV} {m : M} {x y : D} {s : String} (hk : k e = some v) (hr : v.read e = some x) (hq : q e = some y) (h : mthD s x [y] = some m) : mK s k [q] e = some (m, e) := by
  unfold mK; simp only [hk, hr, evP, hq, h]
theorem c_mW {e : Env} {i : Nat} {q : SP} {m1 m : M} {y : D} {ds : List D} {s : String} (h1 : e[i]? = some (some m1)) (hw : AnyL ds m1) (hq : q e = some y) (h : mthD s (.lst ds) [y] = some m) : mK s (kVar i) [q] e = some (m, e) := by
  obtain ⟨v, h2, h3⟩ := any_read h1 hw; exact c_mK h2 h3 hq h
theorem c_mV {e e1 e2 : Env} {a b : SE} {m m1 m2 : M} {x y : D} {s : String} (ha : a e = some (m1, e1)) (hx : m1.fz = x) (hb : b e1 = some (m2, e2)) (hy : m2.fz = y) (h : mthD s x [y] = some m) : mV s a [b] e = some (m, e2) := by
  unfold mV; simp [ha, hx, hb, hy, h]
/-! ### built-ins by type -/
theorem f_len_t {α : Type} {f : α → D} {xs : List α} : lenD (.tup (xs.map f)) = some (.d (.int (xs.length : Int))) := by simp [lenD]
theorem f_len_l {α : Type} {f : α → D} {xs : List α} : lenD (.lst (xs.map f)) = some (.d (.int (xs.length : Int))) := by simp [lenD]
theorem f_lst {α : Type} {f : α → D} {xs : List α} {x : D} (h : x.items = some (xs.map f)) : lstD x = some (.lst (xs.map (mD f))) := by
  unfold lstD; simp only [h, List.map_map]; rfl
theorem f_tup {x : D} {ds : List D} (h : x.items = some ds) : tupD x = some (.d (.tup ds)) := by unfold tupD; simp only [h]
theorem f_sum {x : D} {xs : List Int} (h : x.items = some (xs.map eI)) : sumD x = some (.d (.int xs.sum)) := by unfold sumD; simp only [h, asInts_i]
theorem f_min {x : D} {xs : List Int} {n : Int} (h : x.items = some (xs.map eI)) (hn : minO xs = some n) : minD x = some (.d (.int n)) := by
  cases xs with
  | nil => cases hn
  | cons a r =>
    cases hn
    have := (min_i a r).1
    unfold minD at this ⊢
    simp only [h]
    exact this
theorem f_max {x : D} {xs : List Int} {n : Int} (h : x.items = some (xs.map eI)) (hn : maxO xs = some n) : maxD x = some (.d (.int n)) := by
  cases xs with
  | nil => cases hn
  | cons a r =>
    cases hn
    have := (max_i a r).1
    unfold maxD at this ⊢
    simp only [h]
    exact this
theorem f_srt {x : D} {xs ys : List Int} (h : x.items = some (xs.map eI)) (hn : srtO xs = some ys) : sortD x = some (.lst (ys.map (mD eI))) := by
  unfold srtO at hn
  split at hn
  · rename_i hl
    cases hn
    have hle : ∀ a b : Int, W.dataLe false id (.int a) (.int b) = decide (a ≤ b) := fun a b => by
      have : W.dataLe false id (.int a) (.int b) = !W.dataLt (.int b) (.int a) := rfl
      rw [this, W.dataLt_int]
      by_cases h : b < a
      · simp [h]
      · simp [h, Int.not_lt.mp h]
    have hm : ((xs.map PyData.int).mergeSort (W.dataLe false id)) = ((isort xs).map PyData.int) := by
      unfold isort
      rw [← List.map_mergeSort (r := fun a b => decide (a ≤ b)) (s := W.dataLe false id)]
      intro a _ b _
      exact (hle a b).symm
    have ok : srtOk (xs.map .int) = true := by
      simp only [srtOk, okAll_i, Bool.true_and, Bool.or_eq_true]
      right
      simp
    have h2 : x.items = some (xs.map D.int) := h
    simp only [sortD, h2, pys_i]
    rw [if_pos (by simp [ok, hl]), hm, ofPys_i, List.map_map]; rfl
  · cases hn
theorem f_min2 {a b : Int} : minL [.int a, .int b] = some (.d (.int (min a b))) := by
  rw [x_min2]
  congr 3
  split <;> omega
theorem f_max2 {a b : Int} : maxL [.int a, .int b] = some (.d (.int (max a b))) := by
  rw [x_max2]
  congr 3
  split <;> omega
theorem f_abs {a : Int} : absL [.int a] = some (.d (.int (a.natAbs : Int))) := by
  show some (M.d (.int (if a < 0 then -a else a))) = _
  congr 3
  split <;> omega
theorem f_ls {x : D} {xs : List Int} {n : Int} (h : x.items = some (xs.map eI)) (hn : lsO xs = some n) : lenSet x = some (.d (.int n)) := by
  unfold lsO at hn
  split at hn
  · rename_i hl
    cases hn
    have h2 : x.items = some (xs.map D.int) := h
    unfold lenSet; simp only [h2, asInts_i]; rw [if_pos hl]
  · cases hn
theorem f_m1 {F : D → Option M} {x : D} {m : M} (h : F x = some m) : one F [x] = some m := h
end Lf
end Ev
set_option Elab.async false
set_option linter.all false
set_option maxRecDepth 100000
set_option maxHeartbeats 1000000
/-! More steps, goal by goal. -/
namespace Ev
namespace Lf
open PySem PySem.W
section
variable {Q : R → Prop} {a b c : SS} {e e1 e2 e3 : Env} {m : M} {x y : D}
theorem ws_forF {α σ : Type} {it : SI} {g : Tg} {b rest : SS} {enc : α → D} {xs : List α} {s s' : σ} (Nx : σ → Env → Prop) {f : σ → α → Option σ} (hi : it e = some (xs.map enc, e1)) (h0 : Nx s e1) (hf : foldO f xs s = some s')
    (st : ∀ s x e s', Nx s e → f s x = some s' → ∃ e1, g.set (enc x) e = some e1 ∧ WS (qN Nx s') (b e1)) (k : ∀ e2, Nx s' e2 → WS Q (rest e2)) : WS Q (sSeq (sFor it g b) rest e) :=
  ws_mid (w_for hi (for_fold st xs s s' e1 h0 hf)) fun r hr => match r, hr with
    | .nx e2, hr => k e2 hr
theorem ws_forR {α σ ρ : Type} {it : SI} {g : Tg} {b rest : SS} {enc : α → D} {xs : List α} {s : σ} {z : Rs σ ρ} (Nx : σ → Env → Prop) (Rt : ρ → M → Env → Prop) {f : σ → α → Option (Fl σ σ ρ)} (hi : it e = some (xs.map enc, e1)) (h0 : Nx s e1) (hf : forO f xs s = some z)
    (st : ∀ s x e z, Nx s e → f s x = some z → ∃ e1, g.set (enc x) e = some e1 ∧ WS (qL Nx Nx Rt z) (b e1)) (k : ∀ s2 e2, z = .nx s2 → Nx s2 e2 → WS Q (rest e2)) (kr : ∀ v m e2, z = .rt v → Rt v m e2 → Q (.rt m e2)) : WS Q (sSeq (sFor it g b) rest e) :=
  ws_mid (w_for hi (for_full st xs s z e1 h0 hf)) fun r hr => match r, z, hr, k, kr with
    | .nx e2, .nx s2, hr, k, _ => k s2 e2 rfl hr
    | .rt m e2, .rt v, hr, _, kr => kr v m e2 rfl hr
theorem ws_whR {σ ρ : Type} {t : ST} {b rest : SS} {n : Nat} {s : σ} {z : Rs σ ρ} (Nx : σ → Env → Prop) (Rt : ρ → M → Env → Prop) {tg : σ → Option Bool} {f : σ → Option (Fl σ σ ρ)} (h0 : Nx s e) (hf : whileO tg f n s = some z)
    (st : ∀ s e c, Nx s e → tg s = some c → ∃ e1, t e = some (c, e1) ∧ (c = false → Nx s e1) ∧ (c = true → ∀ z, f s = some z → WS (qL Nx Nx Rt z) (b e1))) (k : ∀ s2 e2, z = .nx s2 → Nx s2 e2 → WS Q (rest e2)) (kr : ∀ v m e2, z = .rt v → Rt v m e2 → Q (.rt m e2)) : WS Q (sSeq (sWhile n t b) rest e) :=
  ws_mid (w_while (while_full st n s z e h0 hf)) fun r hr => match r, z, hr, k, kr with
    | .nx e2, .nx s2, hr, k, _ => k s2 e2 rfl hr
    | .rt m e2, .rt v, hr, _, kr => kr v m e2 rfl hr
theorem ws_ifJ {σ : Type} {t : ST} {bv : Bool} {s' : σ} (Nx : σ → Env → Prop) (ht : t e = some (bv, e1)) (k1 : bv = true → WS (qM Nx s') (a e1)) (k2 : bv = false → WS (qM Nx s') (b e1)) (k : ∀ e2, Nx s' e2 → WS Q (c e2)) : WS Q (sSeq (sIf t a b) c e) :=
  ws_mid (ws_ifM ht k1 k2) fun r hr => match r, hr with
    | .nx e2, hr => k e2 hr
theorem ws_ifL {σ β ρ : Type} {t : ST} {bv : Bool} {z : Fl σ β ρ} (Nx : σ → Env → Prop) (Bk : β → Env → Prop) (Rt : ρ → M → Env → Prop) (ht : t e = some (bv, e1)) (k1 : bv = true → WS (qL Nx Bk Rt z) (a e1)) (k2 : bv = false → WS (qL Nx Bk Rt z) (b e1))
    (k : ∀ s2 e2, z = .nx s2 → Nx s2 e2 → WS Q (c e2)) (kb : ∀ s2 e2, z = .bk s2 → Bk s2 e2 → Q (.bk e2)) (kc : ∀ s2 e2, z = .ct s2 → Bk s2 e2 → Q (.ct e2)) (kr : ∀ v m e2, z = .rt v → Rt v m e2 → Q (.rt m e2)) : WS Q (sSeq (sIf t a b) c e) :=
  ws_mid (ws_ifM ht k1 k2) fun r hr => match r, z, hr, k, kb, kc, kr with
    | .nx e2, .nx s2, hr, k, _, _, _ => k s2 e2 rfl hr
    | .bk e2, .bk s2, hr, _, kb, _, _ => kb s2 e2 rfl hr
    | .ct e2, .ct s2, hr, _, _, kc, _ => kc s2 e2 rfl hr
    | .rt m e2, .rt v, hr, _, _, _, kr => kr v m e2 rfl hr
end
/-! targets -/
theorem g_n {i : Nat} {x : D} {e e1 : Env} (hs : e.set i (some (.d x)) = e1) : (Tg.n i).set x e = some e1 := by rw [x_gn, hs]
theorem g_t {gs : List Tg} {xs : List D} {e e1 : Env} (h : Tg.sets gs xs e = some e1) : (Tg.t gs).set (.tup xs) e = some e1 := by rw [x_gt, h]
theorem gs0 {e : Env} : Tg.sets [] [] e = some e := x_gs0 e
theorem gs1 {g : Tg} {gs : List Tg} {x : D} {xs : List D} {e e1 e2 : Env} (h1 : g.set x e = some e1) (h2 : Tg.sets gs xs e1 = some e2) : Tg.sets (g :: gs) (x :: xs) e = some e2 := by rw [x_gs1, h1]; exact h2
/-! short cuts -/
section
variable {a b : SE} {s t : ST} {e e1 e2 : Env} {x z : Bool}
theorem c_andz (ha : a e = some (.d (.bl x), e1)) (h1 : x = true → b e1 = some (.d (.bl z), e1)) (h0 : x = false → z = false) : cAnd a b e = some (.d (.bl z), e1) := by
  simp only [x_cAnd, ha]
  cases x with
  | true => exact h1 rfl
  | false => rw [h0 rfl]; rfl
theorem c_orz (ha : a e = some (.d (.bl x), e1)) (h1 : x = false → b e1 = some (.d (.bl z), e1)) (h0 : x = true → z = true) : cOr a b e = some (.d (.bl z), e1) := by
  simp only [x_cOr, ha]
  cases x with
  | false => exact h1 rfl
  | true => rw [h0 rfl]; rfl
theorem t_andz (ha : s e = some (x, e1)) (h1 : x = true → t e1 = some (z, e1)) (h0 : x = false → z = false) : tAnd s t e = some (z, e1) := by
  simp only [x_tAnd, ha]
  cases x with
  | true => exact h1 rfl
  | false => rw [h0 rfl]; rfl
theorem t_orz (ha : s e = some (x, e1)) (h1 : x = false → t e1 = some (z, e1)) (h0 : x = true → z = true) : tOr s t e = some (z, e1) := by
  simp only [x_tOr, ha]
  cases x with
  | false => exact h1 rfl
  | true => rw [h0 rfl]; rfl
end
section
variable {a b : SE} {s t : ST} {e e1 e2 : Env} {x z : Bool}
theorem c_andS (ha : a e = some (.d (.bl x), e1)) (h1 : x = true → b e1 = some (.d (.bl z), e2)) (h0 : x = false → z = false ∧ e1 = e2) : cAnd a b e = some (.d (.bl z), e2) := by
  simp only [x_cAnd, ha]
  cases x with
  | true => exact h1 rfl
  | false => obtain ⟨q1, q2⟩ := h0 rfl; rw [q1, q2]; rfl
theorem c_orS (ha : a e = some (.d (.bl x), e1)) (h1 : x = false → b e1 = some (.d (.bl z), e2)) (h0 : x = true → z = true ∧ e1 = e2) : cOr a b e = some (.d (.bl z), e2) := by
  simp only [x_cOr, ha]
  cases x with
  | false => exact h1 rfl
  | true => obtain ⟨q1, q2⟩ := h0 rfl; rw [q1, q2]; rfl
theorem t_andS (ha : s e = some (x, e1)) (h1 : x = true → t e1 = some (z, e2)) (h0 : x = false → z = false ∧ e1 = e2) : tAnd s t e = some (z, e2) := by
  simp only [x_tAnd, ha]
  cases x with
  | true => exact h1 rfl
  | false => obtain ⟨q1, q2⟩ := h0 rfl; rw [q1, q2]; rfl
theorem t_orS (ha : s e = some (x, e1)) (h1 : x = false → t e1 = some (z, e2)) (h0 : x = true → z = true ∧ e1 = e2) : tOr s t e = some (z, e2) := by
  simp only [x_tOr, ha]
  cases x with
  | false => exact h1 rfl
  | true => obtain ⟨q1, q2⟩ := h0 rfl; rw [q1, q2]; rfl
end
theorem gd {b : Bool} {u : Unit} (h : guardO b = some u) : b = true := by
  unfold guardO at h
  split at h
  · assumption
  · cases h
theorem some_f {z w : Bool} (h : some w = some z) (hw : w = x) : z = x := by cases h; exact hw
/-! comprehensions, the shelf known -/
section
variable {α β σ : Type} {it : SI} {g : Tg} {t : ST} {c : SE} {vs : List Nat} {enc : α → D} {xs : List α} {z : List β} {e e1 e2 E0 : Env}
theorem d_mapG (mβ : β → M) {f : α → β} (h : mapG xs f = some z) (hi : it e = some (xs.map enc, e1)) (hf : flatE e1 vs = true) (hg : (g.ns.all fun j => vs.contains j) = true) (h0 : wipeE e1 vs = E0)
    (st : ∀ x, ∃ ea eb, g.set (enc x) E0 = some ea ∧ c ea = some (mβ (f x), eb) ∧ wipeE eb vs = E0) (hb : backE e1 E0 vs = e2) : cComp vs it g tYes c e = some (.lst (z.map mβ), e2) := by
  obtain ⟨e', h1, rfl⟩ := c_mapG (g := g) (c := c) (mβ := mβ) (Nx := fun e => e = E0) hi hf hg h0 (fun x e he => by subst he; exact st x) h
  rw [h1, hb]
theorem d_filG (mβ : β → M) {p : α → Bool} {f : α → β} (h : filG xs p f = some z) (hi : it e = some (xs.map enc, e1)) (hf : flatE e1 vs = true) (hg : (g.ns.all fun j => vs.contains j) = true) (h0 : wipeE e1 vs = E0)
    (st : ∀ x, ∃ ea eb ec, g.set (enc x) E0 = some ea ∧ t ea = some (p x, eb) ∧ wipeE eb vs = E0 ∧ (p x = true → c eb = some (mβ (f x), ec) ∧ wipeE ec vs = E0)) (hb : backE e1 E0 vs = e2) : cComp vs it g t c e = some (.lst (z.map mβ), e2) := by
  obtain ⟨e', h1, rfl⟩ := c_filG (g := g) (c := c) (t := t) (mβ := mβ) (Nx := fun e => e = E0) hi hf hg h0 (fun x e he => by subst he; exact st x) h
  rw [h1, hb]
theorem d_mapO (mβ : β → M) {f : α → Option β} (h : mapO xs f = some z) (hi : it e = some (xs.map enc, e1)) (hf : flatE e1 vs = true) (hg : (g.ns.all fun j => vs.contains j) = true) (h0 : wipeE e1 vs = E0)
    (st : ∀ x y, f x = some y → ∃ ea eb, g.set (enc x) E0 = some ea ∧ c ea = some (mβ y, eb) ∧ wipeE eb vs = E0) (hb : backE e1 E0 vs = e2) : cComp vs it g tYes c e = some (.lst (z.map mβ), e2) := by
  obtain ⟨e', h1, rfl⟩ := c_mapO (g := g) (c := c) (mβ := mβ) (Nx := fun e => e = E0) hi hf hg h0 (fun x e y he => by subst he; exact st x y) h
  rw [h1, hb]
theorem d_compO (mβ : β → M) {f : α → Option (Option β)} (h : compO xs f = some z) (hi : it e = some (xs.map enc, e1)) (hf : flatE e1 vs = true) (hg : (g.ns.all fun j => vs.contains j) = true) (h0 : wipeE e1 vs = E0)
    (st : ∀ x r, f x = some r → ∃ ea eb, g.set (enc x) E0 = some ea ∧ ((r = none ∧ t ea = some (false, eb) ∧ wipeE eb vs = E0) ∨ ∃ y ec, r = some y ∧ t ea = some (true, eb) ∧ c eb = some (mβ y, ec) ∧ wipeE ec vs = E0)) (hb : backE e1 E0 vs = e2) : cComp vs it g t c e = some (.lst (z.map mβ), e2) := by
  obtain ⟨e', h1, rfl⟩ := c_compO (g := g) (c := c) (t := t) (mβ := mβ) (Nx := fun e => e = E0) hi hf hg h0 (fun x e y he => by subst he; exact st x y) h
  rw [h1, hb]
theorem d_compS (mβ : β → M) (E : σ → Env) {f : σ → α → Option (Option β × σ)} {s : σ} {zs : List β × σ} (h : compS xs s f = some zs) (hi : it e = some (xs.map enc, e1)) (hf : flatE e1 vs = true) (hg : (g.ns.all fun j => vs.contains j) = true) (h0 : wipeE e1 vs = E s)
    (st : ∀ s x r, f s x = some r → ∃ ea eb, g.set (enc x) (E s) = some ea ∧ ((r.1 = none ∧ t ea = some (false, eb) ∧ wipeE eb vs = E r.2) ∨ ∃ y ec, r.1 = some y ∧ t ea = some (true, eb) ∧ c eb = some (mβ y, ec) ∧ wipeE ec vs = E r.2)) (hb : backE e1 (E zs.2) vs = e2) : cComp vs it g t c e = some (.lst (zs.1.map mβ), e2) := by
  obtain ⟨e', h1, rfl⟩ := c_compS (g := g) (c := c) (t := t) (mβ := mβ) (Nx := fun s e => e = E s) hi hf hg h0 (fun s x e y he => by subst he; exact st s x y) h
  rw [h1, hb]
end
end Lf
end Ev
set_option Elab.async false
set_option linter.all false
set_option maxRecDepth 100000
set_option maxHeartbeats 1000000
/-! Conversions, orders, owned tables. -/
namespace Ev
namespace Lf
open PySem PySem.W
section
variable {e e1 e2 : Env} {m m1 : M} {x y d : D} {i j : Nat} {k : SK} {q : SP} {c : SE} {t : ST} {n : Int} {a b : Bool}
theorem k_cv (h : k e = some (.val x)) (hx : x = y) : k e = some (.val y) := hx ▸ h
theorem p_cv (h : q e = some x) (hx : x = y) : q e = some y := hx ▸ h
theorem c_cv (h : c e = some (.d x, e1)) (hx : x = y) : c e = some (.d y, e1) := hx ▸ h
theorem tcv (h : t e = some (a, e1)) (hx : a = b) : t e = some (b, e1) := hx ▸ h
theorem c_cvb (h : c e = some (.d (.bl a), e1)) (hx : a = b) : c e = some (.d (.bl b), e1) := hx ▸ h
theorem setF_new {fa : Str → Str → Bool} {c f : Str} {ns : List Str} {ms : List M} {v : M} (h0 : fIx ns f = none) (h1 : ns.length < 999) (h2 : fa c f = true) : (M.obj c ns ms).setF fa f v = some (.obj c (ns ++ [f]) (ms ++ [v])) := by
  unfold M.setF; simp only [h0, h1, h2]; rfl
theorem atI_ex {α : Type} {xs : List α} {v : α} (h : L2.atI xs n = some v) : ∃ j, L2.ixN xs.length n = some j ∧ xs[j]? = some v := by
  unfold L2.atI at h
  cases h2 : L2.ixN xs.length n with
  | none => rw [h2] at h; cases h
  | some j => rw [h2] at h; exact ⟨j, rfl, h⟩
theorem ixN_map {α β : Type} {f : α → β} {xs : List α} (h : L2.ixN xs.length n = some j) : L2.ixN (xs.map f).length n = some j := by rw [List.length_map]; exact h
theorem get_map {α β : Type} {f : α → β} {xs : List α} {v : α} (h : xs[j]? = some v) : (xs.map f)[j]? = some (f v) := by rw [List.getElem?_map, h]; rfl
theorem put_ix {α : Type} {mf : α → M} {xs ys : List α} {v : α} (he : e[i]? = some (some (.lst (xs.map mf)))) (hj : L2.ixN xs.length n = some j) (h : setO xs n v = some ys) (hs : e.set i (some (.lst (ys.map mf))) = e2) : e.putAt i ([] ++ [j]) (mf v) = e2 := by
  subst hs
  unfold setO at h
  rw [hj] at h
  cases h
  unfold L2.ixN at hj
  rw [List.nil_append, x_putAt]
  simp only [x_slot, he]
  by_cases hl : j < xs.length
  · have : (xs.map mf)[j]? = some (mf xs[j]) := by rw [List.getElem?_map, List.getElem?_eq_getElem hl]; rfl
    simp only [x_put1, x_kids1, this, x_put0, x_wk1, List.map_set]
  · have : (xs.map mf)[j]? = none := by rw [List.getElem?_eq_none]; rw [List.length_map]; omega
    have h2 : xs.set j v = xs := List.set_eq_of_length_le (by omega)
    simp only [x_put1, x_kids1, this, h2]
/-- a thing that is d, whoever owns it -/
abbrev FzE (d : D) (w : M) : Prop := w.fz = d
theorem _root_.Ev.runWF {ρ : Type} {Rt : ρ → M → Env → Prop} {v : ρ} {f : SS} {n np : Nat} {mu : List Nat} {ms : List M} {d : D} {os : List M} (hl : ms.length = np) (h : WS (qF Rt v) (f (startE n ms))) (hR : ∀ m e, Rt v m e → FzE d m ∧ takeO mu e = some os) : ∃ w, FzE d w ∧ runF f n np mu ms = some (w, os) := by
  obtain ⟨r, h1, h2⟩ := h
  unfold runF
  rw [if_pos hl, h1]
  cases r with
  | nx e => obtain ⟨z1, z2⟩ := hR _ _ h2; exact ⟨_, z1, by simp [z2]⟩
  | rt m e => obtain ⟨z1, z2⟩ := hR _ _ h2; exact ⟨m, z1, by simp [z2]⟩
  | bk e => exact absurd h2 id
  | ct e => exact absurd h2 id
theorem _root_.Ev.runWA {ρ : Type} {Rt : ρ → M → Env → Prop} {v : ρ} {f : SS} {n np : Nat} {mu : List Nat} {ms : List M} {ds : List D} {os : List M} (hl : ms.length = np) (h : WS (qF Rt v) (f (startE n ms))) (hR : ∀ m e, Rt v m e → AnyL ds m ∧ takeO mu e = some os) : ∃ w, AnyL ds w ∧ runF f n np mu ms = some (w, os) := by
  obtain ⟨r, h1, h2⟩ := h
  unfold runF
  rw [if_pos hl, h1]
  cases r with
  | nx e => obtain ⟨z1, z2⟩ := hR _ _ h2; exact ⟨_, z1, by simp [z2]⟩
  | rt m e => obtain ⟨z1, z2⟩ := hR _ _ h2; exact ⟨m, z1, by simp [z2]⟩
  | bk e => exact absurd h2 id
  | ct e => exact absurd h2 id
theorem c_ifv {α : Type} {mf : α → M} {v1 v2 : α} {s : ST} {a b : SE} {z : Bool} (ht : s e = some (z, e1)) (h1 : z = true → a e1 = some (mf v1, e2)) (h2 : z = false → b e1 = some (mf v2, e2)) : cIf s a b e = some (mf (if z = true then v1 else v2), e2) := by
  cases z with
  | true => exact c_if ht (fun h => h1 rfl) (fun h => by cases h)
  | false => exact c_if ht (fun h => by cases h) (fun h => h2 rfl)
theorem c_ifm {s : ST} {a b : SE} {z : Bool} (ht : s e = some (z, e1)) (h1 : z = true → a e1 = some (m, e2)) (h2 : z = false → b e1 = some (m, e2)) : cIf s a b e = some (m, e2) := c_if ht h1 h2
end
/-- x in xs, x perhaps None -/
def _root_.Ev.inO {α : Type} [DecidableEq α] (x : Option α) (xs : List α) : Bool := match x with | none => false | some v => decide (v ∈ xs)
theorem in_o {α : Type} [DecidableEq α] {f : α → D} {n : Nat} (P : PyE f n) (hf : ∀ x, f x ≠ .non) (hn : n ≤ 32) (x : Option α) (xs : List α) : inD (eO f x) (xs.map f) = some (inO x xs) := by
  cases x with
  | some v => exact in_e P hn v xs
  | none =>
    have o0 : okD .none = true := by simp [okD, PyData.plain, PyData.depth]
    show inD .non (xs.map f) = some false
    simp only [inD, cmpAll, D.py, pys_e P, o0, all_ok_e P hn, Bool.and_self, if_true, Option.some.injEq]
    rw [List.any_eq_false]
    rintro _ hx
    obtain ⟨a, _, rfl⟩ := List.mem_map.mp hx
    rw [(eqv_nn P hf a).2]; decide
/-! a list that is shared on one way -/
theorem pick_w (a : Bool) (X Y : M) : ∃ w : M, (a = true → w = X) ∧ (a = false → w = Y) := by
  cases a with
  | true => exact ⟨X, (fun _ => rfl), (fun h => by cases h)⟩
  | false => exact ⟨Y, (fun h => by cases h), (fun _ => rfl)⟩
theorem any_w {a : Bool} {X Y w : M} {ds : List D} (h1 : a = true → w = X) (h2 : a = false → w = Y) (hx : AnyL ds X) (hy : AnyL ds Y) : AnyL ds w := by
  cases a with
  | true => rw [h1 rfl]; exact hx
  | false => rw [h2 rfl]; exact hy
/-! rows of known length -/
def unp1 {α : Type} : List α → Option α | [a] => some a | _ => none
def unp2 {α : Type} : List α → Option (α × α) | [a, b] => some (a, b) | _ => none
def unp3 {α : Type} : List α → Option (α × α × α) | [a, b, c] => some (a, b, c) | _ => none
def unp4 {α : Type} : List α → Option (α × α × α × α) | [a, b, c, d] => some (a, b, c, d) | _ => none
theorem unp1_eq {α : Type} {xs : List α} {p : α} (h : unp1 xs = some p) : xs = [p] := by
  match xs, h with
  | [a], h => cases h; rfl
theorem unp2_eq {α : Type} {xs : List α} {p : α × α} (h : unp2 xs = some p) : xs = [p.1, p.2] := by
  match xs, h with
  | [a, b], h => cases h; rfl
theorem unp3_eq {α : Type} {xs : List α} {p : α × α × α} (h : unp3 xs = some p) : xs = [p.1, p.2.1, p.2.2] := by
  match xs, h with
  | [a, b, c], h => cases h; rfl
theorem unp4_eq {α : Type} {xs : List α} {p : α × α × α × α} (h : unp4 xs = some p) : xs = [p.1, p.2.1, p.2.2.1, p.2.2.2] := by
  match xs, h with
  | [a, b, c, d], h => cases h; rfl
/-- a slot that holds no container -/
def Fl0 (o : Option M) : Prop := o = none ∨ ∃ x, o = some (.d x)
theorem fl_n : Fl0 none := .inl rfl
theorem fl_d {x : D} : Fl0 (some (.d x)) := .inr ⟨x, rfl⟩
theorem flat0 {e : Env} : flatE e [] = true := rfl
theorem flat1 {e : Env} {o : Option M} {v : Nat} {vs : List Nat} (h : Fl0 o) (hs : e[v]? = some o) (hr : flatE e vs = true) : flatE e (v :: vs) = true := by
  rw [x_fl, List.all_cons, ← x_fl, hr, Bool.and_true]
  rcases h with rfl | ⟨x, rfl⟩ <;> simp [hs]
def peS : PyE eS 0 := ⟨.str, fun x => by simp [D.py], fun x => by simp [PyData.plain], fun x => by simp [PyData.depth], fun x y => by
  simp only [PyData.eqv]
  by_cases h : x = y <;> simp [h]⟩
end Lf
end Ev
set_option Elab.async false
set_option linter.all false
set_option maxRecDepth 100000
set_option maxHeartbeats 1000000
/-! Plain facts about the typed operations. -/
namespace Ev
open PySem PySem.W
/-- a thing by its number -/
def nth {α : Type} [Inhabited α] (xs : List α) (i : Int) : α := xs.getD i.toNat default
theorem nth_eq {α : Type} [Inhabited α] {xs : List α} {i : Int} {n : Nat} (h : i = n) (hn : n < xs.length) : nth xs i = xs[n] := by
  subst h
  simp [nth, List.getD_eq_getElem?_getD, hn]
theorem nth_nat {α : Type} [Inhabited α] {xs : List α} {n : Nat} (hn : n < xs.length) : nth xs (n : Int) = xs[n] := nth_eq rfl hn
theorem nth_mem {α : Type} [Inhabited α] {xs : List α} {i : Int} (h : 0 ≤ i) (h2 : i < xs.length) : nth xs i ∈ xs := by
  rw [nth_eq (n := i.toNat) (by omega) (by omega)]; exact List.getElem_mem _
theorem mem_nth {α : Type} [Inhabited α] {xs : List α} {x : α} (h : x ∈ xs) : ∃ i : Int, 0 ≤ i ∧ i < xs.length ∧ nth xs i = x := by
  obtain ⟨n, hn, e⟩ := List.mem_iff_getElem.mp h
  exact ⟨n, by omega, by omega, by rw [nth_nat hn, e]⟩
theorem nth_map {α β : Type} [Inhabited α] [Inhabited β] {f : α → β} {xs : List α} {i : Int} (h : 0 ≤ i) (h2 : i < xs.length) : nth (xs.map f) i = f (nth xs i) := by
  rw [nth_eq (n := i.toNat) (by omega) (by rw [List.length_map]; omega), nth_eq (n := i.toNat) (by omega) (by omega), List.getElem_map]
theorem ext_nth {α : Type} [Inhabited α] {xs ys : List α} (hl : xs.length = ys.length) (h : ∀ i : Int, 0 ≤ i → i < xs.length → nth xs i = nth ys i) : xs = ys := by
  apply List.ext_getElem hl
  intro n h1 h2
  have := h n (by omega) (by omega)
  rwa [nth_nat h1, nth_nat h2] at this
theorem nth_app_l {α : Type} [Inhabited α] {xs ys : List α} {i : Int} (h : 0 ≤ i) (h2 : i < xs.length) : nth (xs ++ ys) i = nth xs i := by
  rw [nth_eq (n := i.toNat) (by omega) (by rw [List.length_append]; omega), nth_eq (n := i.toNat) (by omega) (by omega), List.getElem_append_left]
theorem nth_app_r {α : Type} [Inhabited α] {xs ys : List α} {i : Int} (h : (xs.length : Int) ≤ i) (h2 : i < xs.length + ys.length) : nth (xs ++ ys) i = nth ys (i - xs.length) := by
  rw [nth_eq (n := i.toNat) (by omega) (by rw [List.length_append]; omega), nth_eq (n := i.toNat - xs.length) (by omega) (by omega), List.getElem_append_right (by omega)]
theorem nth_cons0 {α : Type} [Inhabited α] {x : α} {xs : List α} : nth (x :: xs) 0 = x := rfl
theorem nth_set {α : Type} [Inhabited α] {xs : List α} {i : Int} {n : Nat} {v : α} (h : 0 ≤ i) (h2 : i < xs.length) : nth (xs.set n v) i = if i = n then v else nth xs i := by
  rw [nth_eq (n := i.toNat) (by omega) (by rw [List.length_set]; omega), nth_eq (n := i.toNat) (by omega) (by omega), List.getElem_set]
  by_cases e : i = n
  · rw [if_pos e, if_pos (by omega)]
  · rw [if_neg e, if_neg (by omega)]
/-! ### operations -/
theorem ixO_ok {α : Type} [Inhabited α] {xs : List α} {i : Int} (h : 0 ≤ i) (h2 : i < xs.length) : ixO xs i = some (nth xs i) := by
  rw [nth_eq (n := i.toNat) (by omega) (by omega)]
  exact at_nat h (List.getElem?_eq_getElem _)
theorem setO_ok {α : Type} {xs : List α} {i : Int} {v : α} (h : 0 ≤ i) (h2 : i < xs.length) (h3 : xs.length ≤ 16777216) : setO xs i v = some (xs.set i.toNat v) := by
  unfold setO; rw [ix_nat h h2 (by rw [line_nat]; omega)]
theorem pushO_ok {α : Type} {xs : List α} {x : α} (h : xs.length < 16777216) : pushO xs x = some (xs ++ [x]) := by
  unfold pushO; rw [if_pos (by rw [line_nat]; exact h)]
theorem catO_ok {α : Type} {xs ys : List α} (h : xs.length + ys.length ≤ 16777216) : catO xs ys = some (xs ++ ys) := by
  unfold catO; rw [if_pos (by rw [line_nat]; exact h)]
theorem rngO_ok {a b : Int} (ha : -(2 ^ 59) ≤ a) (ha2 : a < 2 ^ 59) (h : b < 2 ^ 59) (h2 : -(2 ^ 59) ≤ b) : rngO a b = some (rangeI a b) := by
  unfold rngO; rw [if_pos (by simp only [smallR, Bool.and_eq_true, decide_eq_true_eq]; omega)]
theorem lrO_ok {a b : Int} (ha : -(2 ^ 59) ≤ a) (ha2 : a < 2 ^ 59) (h : b < 2 ^ 59) (h2 : -(2 ^ 59) ≤ b) (h3 : b - a ≤ 16777216) : lrO a b = some (rangeI a b) := by
  unfold lrO; rw [if_pos (by simp only [smallR, Bool.and_eq_true, decide_eq_true_eq]; rw [line_nat]; omega)]
theorem mapG_ok {α β : Type} {xs : List α} {f : α → β} (h : xs.length < 16777216) : mapG xs f = some (xs.map f) := by
  unfold mapG; rw [if_pos (by rw [line_nat]; exact h)]
theorem filG_ok {α β : Type} {xs : List α} {p : α → Bool} {f : α → β} (h : xs.length < 16777216) : filG xs p f = some ((xs.filter p).map f) := by
  unfold filG; rw [if_pos (by rw [line_nat]; exact h)]
theorem mapL_ok {α β : Type} {f : α → Option β} {g : α → β} : ∀ {xs : List α}, (∀ x ∈ xs, f x = some (g x)) → mapL f xs = some (xs.map g)
  | [], _ => rfl
  | x :: r, h => by
    simp only [mapL, h x List.mem_cons_self, Option.bind_some, mapL_ok (xs := r) fun y hy => h y (List.mem_cons_of_mem _ hy), List.map_cons]
theorem mapO_ok {α β : Type} {xs : List α} {f : α → Option β} (g : α → β) (hl : xs.length < 16777216) (h : ∀ x ∈ xs, f x = some (g x)) : mapO xs f = some (xs.map g) := by
  unfold mapO; rw [if_pos (by rw [line_nat]; exact hl), mapL_ok h]
theorem compL1_ok {α β : Type} {f : α → Option (Option β)} {p : α → Bool} {g : α → β} : ∀ {xs : List α}, (∀ x ∈ xs, f x = some (if p x then some (g x) else none)) → compL1 f xs = some ((xs.filter p).map g)
  | [], _ => rfl
  | x :: r, h => by
    simp only [compL1, h x List.mem_cons_self, Option.bind_some, compL1_ok (xs := r) fun y hy => h y (List.mem_cons_of_mem _ hy)]
    cases hp : p x <;> simp [hp]
theorem compO_ok {α β : Type} {xs : List α} {f : α → Option (Option β)} (p : α → Bool) (g : α → β) (hl : xs.length < 16777216) (h : ∀ x ∈ xs, f x = some (if p x then some (g x) else none)) : compO xs f = some ((xs.filter p).map g) := by
  unfold compO; rw [if_pos (by rw [line_nat]; exact hl), compL1_ok h]
theorem compLS_inv {α β σ : Type} {f : σ → α → Option (Option β × σ)} (P : Nat → List β → σ → Prop) : ∀ (xs : List α) (n : Nat) (ys : List β) (s : σ), P n ys s → (∀ i x ys s, xs[i]? = some x → P (n + i) ys s → ∃ y s', f s x = some (some y, s') ∧ P (n + i + 1) (ys ++ [y]) s') → ∃ zs s', compLS f xs s = some (zs, s') ∧ P (n + xs.length) (ys ++ zs) s'
  | [], n, ys, s, h, _ => ⟨[], s, rfl, by simpa using h⟩
  | x :: r, n, ys, s, h, st => by
    obtain ⟨y, s1, h1, h2⟩ := st 0 x ys s rfl h
    obtain ⟨zs, s', h3, h4⟩ := compLS_inv P r (n + 1) (ys ++ [y]) s1 h2 fun i x ys s hx hp => by
      have := st (i + 1) x ys s (by simpa using hx) (by rw [show n + (i + 1) = n + 1 + i by omega]; exact hp)
      rw [show n + (i + 1) + 1 = n + 1 + i + 1 by omega] at this
      exact this
    refine ⟨y :: zs, s', by simp only [compLS, h1, Option.bind_some, h3], ?_⟩
    rw [show n + (x :: r).length = n + 1 + r.length by simp; omega]
    simpa using h4
theorem compS_inv {α β σ : Type} {f : σ → α → Option (Option β × σ)} (P : Nat → List β → σ → Prop) {xs : List α} {s : σ} (hl : xs.length < 16777216) (h : P 0 [] s) (st : ∀ i x ys s, xs[i]? = some x → P i ys s → ∃ y s', f s x = some (some y, s') ∧ P (i + 1) (ys ++ [y]) s') : ∃ zs s', compS xs s f = some (zs, s') ∧ P xs.length zs s' := by
  unfold compS; rw [if_pos (by rw [line_nat]; exact hl)]
  obtain ⟨zs, s', h1, h2⟩ := compLS_inv P xs 0 [] s h fun i x ys s hx hp => by rw [Nat.zero_add] at hp ⊢; exact st i x ys s hx hp
  exact ⟨zs, s', h1, by simpa using h2⟩
theorem foldO_inv' {α σ : Type} {f : σ → α → Option σ} (P : Nat → σ → Prop) : ∀ (xs : List α) (n : Nat) (s : σ), P n s → (∀ i x s, xs[i]? = some x → P (n + i) s → ∃ s', f s x = some s' ∧ P (n + i + 1) s') → ∃ s', foldO f xs s = some s' ∧ P (n + xs.length) s'
  | [], n, s, h, _ => ⟨s, rfl, h⟩
  | x :: r, n, s, h, st => by
    obtain ⟨s1, h1, h2⟩ := st 0 x s rfl h
    obtain ⟨s', h3, h4⟩ := foldO_inv' P r (n + 1) s1 h2 fun i x s hx hp => by
      have := st (i + 1) x s (by simpa using hx) (by rw [show n + (i + 1) = n + 1 + i by omega]; exact hp)
      rw [show n + (i + 1) + 1 = n + 1 + i + 1 by omega] at this
      exact this
    refine ⟨s', by simp only [foldO, h1, Option.bind_some, h3], ?_⟩
    rw [show n + (x :: r).length = n + 1 + r.length by simp; omega]
    exact h4
theorem foldO_inv {α σ : Type} {f : σ → α → Option σ} (P : Nat → σ → Prop) {xs : List α} {s : σ} (h : P 0 s) (st : ∀ i x s, xs[i]? = some x → P i s → ∃ s', f s x = some s' ∧ P (i + 1) s') : ∃ s', foldO f xs s = some s' ∧ P xs.length s' := by
  obtain ⟨s', h1, h2⟩ := foldO_inv' P xs 0 s h fun i x s hx hp => by rw [Nat.zero_add] at hp ⊢; exact st i x s hx hp
  exact ⟨s', h1, by simpa using h2⟩
/-- the state told by the number of turns -/
theorem foldO_eq {α σ : Type} {f : σ → α → Option σ} (F : Nat → σ) {xs : List α} (st : ∀ i x, xs[i]? = some x → f (F i) x = some (F (i + 1))) : foldO f xs (F 0) = some (F xs.length) := by
  obtain ⟨s', h1, h2⟩ := foldO_inv (f := f) (fun i s => s = F i) (xs := xs) rfl fun i x s hx hs => by subst hs; exact ⟨_, st i x hx, rfl⟩
  rw [h1, h2]
theorem forO_inv' {α σ ρ : Type} {f : σ → α → Option (Fl σ σ ρ)} (P : Nat → σ → Prop) : ∀ (xs : List α) (n : Nat) (s : σ), P n s → (∀ i x s, xs[i]? = some x → P (n + i) s → ∃ s', (f s x = some (.nx s') ∨ f s x = some (.ct s')) ∧ P (n + i + 1) s') → ∃ s', forO f xs s = some (.nx s') ∧ P (n + xs.length) s'
  | [], n, s, h, _ => ⟨s, rfl, h⟩
  | x :: r, n, s, h, st => by
    obtain ⟨s1, h1, h2⟩ := st 0 x s rfl h
    obtain ⟨s', h3, h4⟩ := forO_inv' P r (n + 1) s1 h2 fun i x s hx hp => by
      have := st (i + 1) x s (by simpa using hx) (by rw [show n + (i + 1) = n + 1 + i by omega]; exact hp)
      rw [show n + (i + 1) + 1 = n + 1 + i + 1 by omega] at this
      exact this
    refine ⟨s', by rcases h1 with h1 | h1 <;> simp only [forO, h1, Option.bind_some, h3], ?_⟩
    rw [show n + (x :: r).length = n + 1 + r.length by simp; omega]
    exact h4
/-- no turn is the last -/
theorem forO_inv {α σ ρ : Type} {f : σ → α → Option (Fl σ σ ρ)} (P : Nat → σ → Prop) {xs : List α} {s : σ} (h : P 0 s) (st : ∀ i x s, xs[i]? = some x → P i s → ∃ s', (f s x = some (.nx s') ∨ f s x = some (.ct s')) ∧ P (i + 1) s') : ∃ s', forO f xs s = some (.nx s') ∧ P xs.length s' := by
  obtain ⟨s', h1, h2⟩ := forO_inv' P xs 0 s h fun i x s hx hp => by rw [Nat.zero_add] at hp ⊢; exact st i x s hx hp
  exact ⟨s', h1, by simpa using h2⟩
/-- nothing is kept -/
theorem forO_unit {α ρ : Type} {f : Unit → α → Option (Fl Unit Unit ρ)} {xs : List α} (st : ∀ x ∈ xs, f () x = some (.nx ()) ∨ f () x = some (.ct ())) : forO f xs () = some (.nx ()) := by
  obtain ⟨s', h1, _⟩ := forO_inv (f := f) (fun _ _ => True) (xs := xs) (s := ()) trivial fun i x s hx _ => ⟨(), st x (List.mem_of_getElem? hx), trivial⟩
  exact h1
theorem foldO_unit {α : Type} {f : Unit → α → Option Unit} {xs : List α} (st : ∀ x ∈ xs, f () x = some ()) : foldO f xs () = some () := by
  obtain ⟨s', h1, _⟩ := foldO_inv (f := f) (fun _ _ => True) (xs := xs) (s := ()) trivial fun i x s hx _ => ⟨(), st x (List.mem_of_getElem? hx), trivial⟩
  exact h1
/-- a walk that may end: what holds at its end -/
theorem forO_post' {α σ ρ : Type} {f : σ → α → Option (Fl σ σ ρ)} (P : Nat → σ → Prop) (Q : Rs σ ρ → Prop) : ∀ (xs : List α) (n : Nat) (s : σ), P n s → (∀ i x s, xs[i]? = some x → P (n + i) s → (∃ s', (f s x = some (.nx s') ∨ f s x = some (.ct s')) ∧ P (n + i + 1) s') ∨ (∃ s', f s x = some (.bk s') ∧ Q (.nx s')) ∨ ∃ v, f s x = some (.rt v) ∧ Q (.rt v)) → (∀ s, P (n + xs.length) s → Q (.nx s)) → ∃ z, forO f xs s = some z ∧ Q z
  | [], n, s, h, _, hq => ⟨.nx s, rfl, hq s h⟩
  | x :: r, n, s, h, st, hq => by
    rcases st 0 x s rfl h with ⟨s1, h1, h2⟩ | ⟨s1, h1, h2⟩ | ⟨v, h1, h2⟩
    · obtain ⟨z, h3, h4⟩ := forO_post' P Q r (n + 1) s1 h2 (fun i x s hx hp => by
        have := st (i + 1) x s (by simpa using hx) (by rw [show n + (i + 1) = n + 1 + i by omega]; exact hp)
        rw [show n + (i + 1) + 1 = n + 1 + i + 1 by omega] at this
        exact this) (fun s hs => hq s (by rw [show n + (x :: r).length = n + 1 + r.length by simp; omega]; exact hs))
      exact ⟨z, by rcases h1 with h1 | h1 <;> simp only [forO, h1, Option.bind_some, h3], h4⟩
    · exact ⟨.nx s1, by simp only [forO, h1, Option.bind_some], h2⟩
    · exact ⟨.rt v, by simp only [forO, h1, Option.bind_some], h2⟩
theorem forO_post {α σ ρ : Type} {f : σ → α → Option (Fl σ σ ρ)} (P : Nat → σ → Prop) (Q : Rs σ ρ → Prop) {xs : List α} {s : σ} (h : P 0 s) (st : ∀ i x s, xs[i]? = some x → P i s → (∃ s', (f s x = some (.nx s') ∨ f s x = some (.ct s')) ∧ P (i + 1) s') ∨ (∃ s', f s x = some (.bk s') ∧ Q (.nx s')) ∨ ∃ v, f s x = some (.rt v) ∧ Q (.rt v)) (hq : ∀ s, P xs.length s → Q (.nx s)) : ∃ z, forO f xs s = some z ∧ Q z :=
  forO_post' P Q xs 0 s h (fun i x s hx hp => by rw [Nat.zero_add] at hp ⊢; exact st i x s hx hp) (fun s hs => hq s (by rw [Nat.zero_add] at hs; exact hs))
/-- a while loop by a measure -/
theorem whileO_post {σ ρ : Type} {t : σ → Option Bool} {b : σ → Option (Fl σ σ ρ)} (P : σ → Prop) (m : σ → Nat) (Q : Rs σ ρ → Prop) : ∀ (n : Nat) (s : σ), m s < n → P s → (∀ s, P s → t s = some false ∧ Q (.nx s) ∨ t s = some true ∧ ((∃ s', (b s = some (.nx s') ∨ b s = some (.ct s')) ∧ P s' ∧ m s' < m s) ∨ (∃ s', b s = some (.bk s') ∧ Q (.nx s')) ∨ ∃ v, b s = some (.rt v) ∧ Q (.rt v))) → ∃ z, whileO t b n s = some z ∧ Q z
  | 0, s, h, _, _ => by omega
  | n + 1, s, h, hp, st => by
    rcases st s hp with ⟨h1, h2⟩ | ⟨h1, ⟨s', h2, h3, h4⟩ | ⟨s', h2, h3⟩ | ⟨v, h2, h3⟩⟩
    · exact ⟨.nx s, by simp [whileO, h1], h2⟩
    · obtain ⟨z, h5, h6⟩ := whileO_post P m Q n s' (by omega) h3 st
      exact ⟨z, by rcases h2 with h2 | h2 <;> simp [whileO, h1, h2, h5], h6⟩
    · exact ⟨.nx s', by simp [whileO, h1, h2], h3⟩
    · exact ⟨.rt v, by simp [whileO, h1, h2], h3⟩
theorem mulI {a b : Int} (h : -(2 ^ 63) < a) (h2 : a < 2 ^ 63) : binI .Mult a b = some (a * b) := Lf.mul_l (by omega)
theorem mulIr {a b : Int} (h : -(2 ^ 63) < b) (h2 : b < 2 ^ 63) : binI .Mult a b = some (a * b) := Lf.mul_r (by omega)
theorem divI {a b : Int} (h : 0 < b) (h2 : b < 2 ^ 64) : binI .FloorDiv a b = some (a / b) := Lf.div_r h h2
theorem modI {a b : Int} (h : 0 < b) : binI .Mod a b = some (a % b) := Lf.mod_r h
theorem guardO_t : guardO true = some () := rfl
/-! ### ranges -/
theorem rgI_len (a b : Int) : (rangeI a b).length = (b - a).toNat := by simp [rangeI]
theorem rgI_mem {a b x : Int} : x ∈ rangeI a b ↔ a ≤ x ∧ x < b := by
  simp only [rangeI, List.mem_map, List.mem_range]
  constructor
  · rintro ⟨i, h1, rfl⟩; omega
  · rintro ⟨h1, h2⟩; exact ⟨(x - a).toNat, by omega, by omega⟩
theorem rgI_get {a b : Int} {i : Nat} {x : Int} (h : (rangeI a b)[i]? = some x) : x = a + i ∧ (i : Int) < b - a := by
  unfold rangeI at h
  rw [List.getElem?_map] at h
  cases h2 : (List.range (b - a).toNat)[i]? with
  | none => rw [h2] at h; cases h
  | some j =>
    obtain ⟨z1, z2⟩ := List.getElem?_eq_some_iff.mp h2
    rw [List.getElem_range] at z2
    subst z2
    rw [h2] at h
    rw [List.length_range] at z1
    simp at h
    exact ⟨h.symm, by omega⟩
theorem rg0_get {b : Int} {i : Nat} {x : Int} (h : (rangeI 0 b)[i]? = some x) : x = i ∧ (i : Int) < b := by
  obtain ⟨h1, h2⟩ := rgI_get h; exact ⟨by omega, by omega⟩
theorem rgI_nth {a b i : Int} (h : 0 ≤ i) (h2 : i < b - a) : nth (rangeI a b) i = a + i := by
  rw [nth_eq (n := i.toNat) (by omega) (by rw [rgI_len]; omega)]
  simp [rangeI]; omega
theorem rgI_lt (a b : Int) : (rangeI a b).Pairwise (· < ·) := by
  simp only [rangeI, List.pairwise_map]
  exact List.Pairwise.imp (fun h => by omega) List.pairwise_lt_range
theorem rgI_nd (a b : Int) : (rangeI a b).Nodup := (rgI_lt a b).imp fun h => by omega
theorem rgI_succ {a b : Int} (h : a ≤ b) : rangeI a (b + 1) = rangeI a b ++ [b] := by
  unfold rangeI
  rw [show (b + 1 - a).toNat = (b - a).toNat + 1 by omega, List.range_succ, List.map_append]
  simp; omega
theorem rgI_nil {a b : Int} (h : b ≤ a) : rangeI a b = [] := by
  unfold rangeI; rw [show (b - a).toNat = 0 by omega]; rfl
/-! ### places -/
theorem idxO_ok {α : Type} [DecidableEq α] {x : α} {xs : List α} (h : x ∈ xs) : idxO x xs = some (xs.idxOf x : Int) := by unfold idxO; rw [if_pos h]
theorem nth_idx {α : Type} [DecidableEq α] [Inhabited α] {x : α} {xs : List α} (h : x ∈ xs) : nth xs (xs.idxOf x : Int) = x := by
  have := List.idxOf_lt_length_iff.mpr h
  rw [nth_nat this, List.getElem_idxOf]
theorem nth_inj {α : Type} [Inhabited α] {xs : List α} (nd : xs.Nodup) {i j : Int} (h1 : 0 ≤ i) (h2 : i < xs.length) (h3 : 0 ≤ j) (h4 : j < xs.length) (h : nth xs i = nth xs j) : i = j := by
  rw [nth_eq (n := i.toNat) (by omega) (by omega), nth_eq (n := j.toNat) (by omega) (by omega)] at h
  rcases Nat.lt_trichotomy i.toNat j.toNat with z | z | z
  · exact absurd h (List.pairwise_iff_getElem.mp nd _ _ (by omega) (by omega) z)
  · omega
  · exact absurd h.symm (List.pairwise_iff_getElem.mp nd _ _ (by omega) (by omega) z)
theorem idx_nth {α : Type} [DecidableEq α] [Inhabited α] {xs : List α} (nd : xs.Nodup) {i : Int} (h1 : 0 ≤ i) (h2 : i < xs.length) : (xs.idxOf (nth xs i) : Int) = i := by
  have hm := nth_mem h1 h2
  have := List.idxOf_lt_length_iff.mpr hm
  exact nth_inj nd (by omega) (by omega) h1 h2 (nth_idx hm)
/-! ### slices -/
theorem cut_to {α : Type} (xs : List α) {i : Int} (h : 0 ≤ i) : cut xs none (some i) = xs.take i.toNat := by
  obtain ⟨n, rfl⟩ := Int.eq_ofNat_of_zero_le h
  unfold cut
  have h1 : HT.sIx xs.length 0 (none : Option Int) = 0 := by simp [HT.sIx]
  have h2 : HT.sIx xs.length xs.length (some (n : Int)) = min n xs.length := HT.sIx_nat xs.length xs.length n
  rw [h1, h2]
  simp
theorem cut_from {α : Type} (xs : List α) {i : Int} (h : 0 ≤ i) : cut xs (some i) none = xs.drop i.toNat := by
  obtain ⟨n, rfl⟩ := Int.eq_ofNat_of_zero_le h
  unfold cut
  have h1 : HT.sIx xs.length 0 (some (n : Int)) = min n xs.length := HT.sIx_nat xs.length 0 n
  have h2 : HT.sIx xs.length xs.length (none : Option Int) = xs.length := by simp [HT.sIx]
  rw [h1, h2]
  by_cases hl : n ≤ xs.length
  · rw [Nat.min_eq_left hl, List.take_of_length_le (by rw [List.length_drop]; omega)]; rfl
  · rw [Nat.min_eq_right (by omega), List.drop_length, List.drop_eq_nil_of_le (by simp; omega)]; simp
theorem cut_mid {α : Type} (xs : List α) {i j : Int} (h : 0 ≤ i) (h2 : i ≤ j) (h3 : j ≤ xs.length) : cut xs (some i) (some j) = (xs.drop i.toNat).take (j.toNat - i.toNat) := by
  obtain ⟨n, rfl⟩ := Int.eq_ofNat_of_zero_le h
  obtain ⟨m, rfl⟩ := Int.eq_ofNat_of_zero_le (show 0 ≤ j by omega)
  unfold cut
  have h1 : HT.sIx xs.length 0 (some (n : Int)) = min n xs.length := HT.sIx_nat xs.length 0 n
  have h2 : HT.sIx xs.length xs.length (some (m : Int)) = min m xs.length := HT.sIx_nat xs.length xs.length m
  rw [h1, h2, Nat.min_eq_left (by omega), Nat.min_eq_left (by omega)]; rfl
/-! ### sorted, sums -/
theorem isort_perm (xs : List Int) : (isort xs).Perm xs := List.mergeSort_perm _ _
theorem isort_le (xs : List Int) : (isort xs).Pairwise (· ≤ ·) := by
  have := List.pairwise_mergeSort (le := fun a b : Int => decide (a ≤ b)) (fun a b c h1 h2 => by simp at *; omega) (fun a b => by simp; omega) xs
  simpa using this
theorem isort_eq {xs ys : List Int} (h : xs.Perm ys) (hs : ys.Pairwise (· ≤ ·)) : isort xs = ys :=
  ((isort_perm xs).trans h).eq_of_pairwise (le := (· ≤ ·)) (fun a b _ _ h1 h2 => by omega) (isort_le xs) hs
theorem srtO_ok {xs : List Int} (h : xs.length ≤ 16777216) : srtO xs = some (isort xs) := by unfold srtO; rw [if_pos (by rw [line_nat]; exact h)]
theorem foldl_min (r : List Int) : ∀ a : Int, (r.foldl min a = a ∨ r.foldl min a ∈ r) ∧ r.foldl min a ≤ a ∧ ∀ x ∈ r, r.foldl min a ≤ x := by
  induction r with
  | nil => intro a; simp
  | cons b r ih =>
    intro a
    obtain ⟨h1, h2, h3⟩ := ih (min a b)
    simp only [List.foldl_cons, List.mem_cons]
    refine ⟨?_, by omega, ?_⟩
    · rcases h1 with h1 | h1
      · rw [h1]
        by_cases h : a ≤ b
        · left; omega
        · right; left; omega
      · exact .inr (.inr h1)
    · rintro x (rfl | hx)
      · omega
      · exact h3 x hx
theorem foldl_max (r : List Int) : ∀ a : Int, (r.foldl max a = a ∨ r.foldl max a ∈ r) ∧ a ≤ r.foldl max a ∧ ∀ x ∈ r, x ≤ r.foldl max a := by
  induction r with
  | nil => intro a; simp
  | cons b r ih =>
    intro a
    obtain ⟨h1, h2, h3⟩ := ih (max a b)
    simp only [List.foldl_cons, List.mem_cons]
    refine ⟨?_, by omega, ?_⟩
    · rcases h1 with h1 | h1
      · rw [h1]
        by_cases h : a ≤ b
        · right; left; omega
        · left; omega
      · exact .inr (.inr h1)
    · rintro x (rfl | hx)
      · omega
      · exact h3 x hx
theorem minO_ok {xs : List Int} (h : xs ≠ []) : ∃ m, minO xs = some m ∧ m ∈ xs ∧ ∀ x ∈ xs, m ≤ x := by
  cases xs with
  | nil => exact absurd rfl h
  | cons a r =>
    obtain ⟨h1, h2, h3⟩ := foldl_min r a
    refine ⟨_, rfl, ?_, ?_⟩
    · rcases h1 with h1 | h1
      · rw [h1]; exact List.mem_cons_self
      · exact List.mem_cons_of_mem _ h1
    · intro x hx
      rcases List.mem_cons.mp hx with rfl | hx
      · exact h2
      · exact h3 x hx
theorem maxO_ok {xs : List Int} (h : xs ≠ []) : ∃ m, maxO xs = some m ∧ m ∈ xs ∧ ∀ x ∈ xs, x ≤ m := by
  cases xs with
  | nil => exact absurd rfl h
  | cons a r =>
    obtain ⟨h1, h2, h3⟩ := foldl_max r a
    refine ⟨_, rfl, ?_, ?_⟩
    · rcases h1 with h1 | h1
      · rw [h1]; exact List.mem_cons_self
      · exact List.mem_cons_of_mem _ h1
    · intro x hx
      rcases List.mem_cons.mp hx with rfl | hx
      · exact h2
      · exact h3 x hx
theorem lsO_ok {xs : List Int} (h : xs.Nodup) (h2 : xs.length ≤ 4000) : lsO xs = some (xs.length : Int) := by unfold lsO; rw [if_pos ⟨h, h2⟩]
theorem repl1 {α : Type} (x : α) : ∀ n : Nat, (List.replicate n [x]).flatten = List.replicate n x
  | 0 => rfl
  | n + 1 => by simp [List.replicate_succ, repl1 x n]
theorem rpL1 {α : Type} {x : α} {n : Int} (h : 0 ≤ n) (h2 : n ≤ 16777216) : rpL [x] n = some (List.replicate n.toNat x) := by
  unfold rpL; rw [if_pos (by rw [line_nat]; simp; omega), repl1]
theorem rpT0 {α : Type} {xs : List α} : rpT xs 1 = some xs := by
  unfold rpT; rw [if_neg (fun z => absurd z.2.1 (by decide)), if_pos rfl]
theorem rpT1' {α : Type} {x : α} {n : Int} (h : 1 ≤ n) (h2 : n ≤ 1000) : rpT [x] n = some (List.replicate n.toNat x) := by
  by_cases e : n = 1
  · subst e; rw [rpT0]; rfl
  · unfold rpT; rw [if_pos (by simp; omega), repl1]
theorem rpT1 {α : Type} {x : α} {n : Int} (h : 2 ≤ n) (h2 : n ≤ 1000) : rpT [x] n = some (List.replicate n.toNat x) := by
  unfold rpT; rw [if_pos (by simp; omega), repl1]
theorem sum_zero' {xs : List Int} (h : ∀ x ∈ xs, x = 0) : xs.sum = 0 := by
  induction xs with
  | nil => rfl
  | cons a r ih => rw [List.sum_cons, h a List.mem_cons_self, ih fun x hx => h x (List.mem_cons_of_mem _ hx)]; rfl
theorem sum_map_add {α : Type} (f g : α → Int) (xs : List α) : (xs.map fun x => f x + g x).sum = (xs.map f).sum + (xs.map g).sum := by
  induction xs with
  | nil => rfl
  | cons a r ih => simp only [List.map_cons, List.sum_cons, ih]; omega
theorem sum_map_sub {α : Type} (f g : α → Int) (xs : List α) : (xs.map fun x => f x - g x).sum = (xs.map f).sum - (xs.map g).sum := by
  induction xs with
  | nil => rfl
  | cons a r ih => simp only [List.map_cons, List.sum_cons, ih]; omega
theorem sum_map_const {α : Type} (c : Int) (xs : List α) : (xs.map fun _ => c).sum = c * xs.length := by
  induction xs with
  | nil => simp
  | cons a r ih => simp only [List.map_cons, List.sum_cons, ih, List.length_cons, Int.natCast_add, Int.natCast_one, Int.mul_add, Int.mul_one]; omega
theorem sum_map_mul {α : Type} (c : Int) (f : α → Int) (xs : List α) : (xs.map fun x => c * f x).sum = c * (xs.map f).sum := by
  induction xs with
  | nil => simp
  | cons a r ih => simp only [List.map_cons, List.sum_cons, ih, Int.mul_add]
theorem sum_perm {xs ys : List Int} (h : xs.Perm ys) : xs.sum = ys.sum := by
  induction h with
  | nil => rfl
  | cons x _ ih => simp only [List.sum_cons, ih]
  | swap x y _ => simp only [List.sum_cons]; omega
  | trans _ _ i1 i2 => rw [i1, i2]
theorem sum_nn {xs : List Int} (h : ∀ x ∈ xs, 0 ≤ x) : 0 ≤ xs.sum := by
  induction xs with
  | nil => exact Int.le_refl _
  | cons a r ih =>
    have := h a List.mem_cons_self
    have := ih fun x hx => h x (List.mem_cons_of_mem _ hx)
    rw [List.sum_cons]; omega
theorem sum_le {xs : List Int} {c : Int} (h : ∀ x ∈ xs, x ≤ c) : xs.sum ≤ c * xs.length := by
  induction xs with
  | nil => simp
  | cons a r ih =>
    have := h a List.mem_cons_self
    have := ih fun x hx => h x (List.mem_cons_of_mem _ hx)
    rw [List.sum_cons, List.length_cons, Int.natCast_add, Int.natCast_one, Int.mul_add, Int.mul_one]; omega
theorem sum_app (xs ys : List Int) : (xs ++ ys).sum = xs.sum + ys.sum := List.sum_append
end Ev
set_option Elab.async false
set_option linter.all false
set_option maxRecDepth 100000
set_option maxHeartbeats 1000000
/-! What an answer is, step by step. -/
namespace Ev
open PySem
/-- there is an answer, and it is so -/
def Ok {α : Type} (o : Option α) (Q : α → Prop) : Prop := ∃ v, o = some v ∧ Q v
section
variable {α β σ ρ τ : Type}
theorem ok_some {v : α} {Q : α → Prop} (h : Q v) : Ok (some v) Q := ⟨v, rfl, h⟩
theorem ok_eq {o : Option α} {v : α} {Q : α → Prop} (e : o = some v) (h : Q v) : Ok o Q := ⟨v, e, h⟩
theorem ok_of {o : Option α} {v : α} (e : Ok o fun x => x = v) : o = some v := by obtain ⟨x, h1, rfl⟩ := e; exact h1
theorem ok_mono {o : Option α} {P Q : α → Prop} (h : Ok o P) (k : ∀ v, P v → Q v) : Ok o Q := by obtain ⟨v, h1, h2⟩ := h; exact ⟨v, h1, k v h2⟩
theorem ok_bind {o : Option α} {k : α → Option β} {Q : β → Prop} {P : α → Prop} (h : Ok o P) (hk : ∀ v, P v → Ok (k v) Q) : Ok (o.bind k) Q := by
  obtain ⟨v, h1, h2⟩ := h
  rw [h1]; exact hk v h2
theorem ok_beq {o : Option α} {k : α → Option β} {Q : β → Prop} {v : α} (h : o = some v) (hk : Ok (k v) Q) : Ok (o.bind k) Q := by
  rw [h]; exact hk
theorem ok_ite {b : Bool} {o o' : Option α} {Q : α → Prop} (h1 : b = true → Ok o Q) (h2 : b = false → Ok o' Q) : Ok (if b = true then o else o') Q := by
  cases b with
  | true => exact h1 rfl
  | false => exact h2 rfl
/-- a condition that is known -/
theorem ok_tt {b : Bool} {o o' : Option α} {Q : α → Prop} (h : b = true) (h1 : Ok o Q) : Ok (if b = true then o else o') Q := by rw [if_pos h]; exact h1
theorem ok_ff {b : Bool} {o o' : Option α} {Q : α → Prop} (h : b = false) (h1 : Ok o' Q) : Ok (if b = true then o else o') Q := by rw [if_neg (by rw [h]; decide)]; exact h1
theorem ok_fold {f : σ → α → Option σ} {xs : List α} {s : σ} (P : Nat → σ → Prop) (h : P 0 s) (st : ∀ i x s, xs[i]? = some x → P i s → Ok (f s x) (P (i + 1))) : Ok (foldO f xs s) (P xs.length) := foldO_inv P h st
theorem ok_bfold {f : σ → α → Option σ} {xs : List α} {s : σ} {k : σ → Option β} {Q : β → Prop} (P : Nat → σ → Prop) (h : P 0 s) (st : ∀ i x s, xs[i]? = some x → P i s → Ok (f s x) (P (i + 1))) (hk : ∀ s, P xs.length s → Ok (k s) Q) : Ok ((foldO f xs s).bind k) Q := ok_bind (ok_fold P h st) hk
/-- what a turn's end says -/
@[reducible] def flP (P : σ → Prop) (B : σ → Prop) (V : ρ → Prop) : Fl σ σ ρ → Prop
  | .nx s => P s
  | .ct s => P s
  | .bk s => B s
  | .rt v => V v
@[reducible] def rsP (P : σ → Prop) (V : ρ → Prop) : Rs σ ρ → Prop
  | .nx s => P s
  | .rt v => V v
theorem ok_for {f : σ → α → Option (Fl σ σ ρ)} {xs : List α} {s : σ} (P : Nat → σ → Prop) (E : σ → Prop) (V : ρ → Prop) (h : P 0 s) (st : ∀ i x s, xs[i]? = some x → P i s → Ok (f s x) (flP (P (i + 1)) E V)) (he : ∀ s, P xs.length s → E s) : Ok (forO f xs s) (rsP E V) := by
  refine forO_post P (rsP E V) h (fun i x s hx hs => ?_) fun s hs => he s hs
  obtain ⟨z, h1, h2⟩ := st i x s hx hs
  cases z with
  | nx s' => exact .inl ⟨s', .inl h1, h2⟩
  | ct s' => exact .inl ⟨s', .inr h1, h2⟩
  | bk s' => exact .inr (.inl ⟨s', h1, h2⟩)
  | rt v => exact .inr (.inr ⟨v, h1, h2⟩)
/-- a walk that is never left -/
theorem ok_forN {f : σ → α → Option (Fl σ σ ρ)} {xs : List α} {s : σ} {k : Rs σ ρ → Option β} {Q : β → Prop} (P : Nat → σ → Prop) (h : P 0 s) (st : ∀ i x s, xs[i]? = some x → P i s → Ok (f s x) (flP (P (i + 1)) (fun _ => False) (fun _ => False))) (hk : ∀ s, P xs.length s → Ok (k (.nx s)) Q) : Ok ((forO f xs s).bind k) Q := by
  obtain ⟨s', h1, h2⟩ := forO_inv (f := f) P h fun i x s hx hs => by
    obtain ⟨z, h1, h2⟩ := st i x s hx hs
    cases z with
    | nx s' => exact ⟨s', .inl h1, h2⟩
    | ct s' => exact ⟨s', .inr h1, h2⟩
    | bk s' => exact absurd h2 id
    | rt v => exact absurd h2 id
  rw [h1]; exact hk s' h2
/-- .. that keeps nothing -/
theorem ok_forU {f : Unit → α → Option (Fl Unit Unit ρ)} {xs : List α} {k : Rs Unit ρ → Option β} {Q : β → Prop} (st : ∀ x ∈ xs, Ok (f () x) (flP (fun _ => True) (fun _ => False) (fun _ => False))) (hk : Ok (k (.nx ())) Q) : Ok ((forO f xs ()).bind k) Q :=
  ok_forN (fun _ _ => True) trivial (fun i x _ hx _ => st x (List.mem_of_getElem? hx)) fun _ _ => hk
theorem ok_bfor {f : σ → α → Option (Fl σ σ ρ)} {xs : List α} {s : σ} {k : Rs σ ρ → Option β} {Q : β → Prop} (P : Nat → σ → Prop) (E : σ → Prop) (V : ρ → Prop) (h : P 0 s) (st : ∀ i x s, xs[i]? = some x → P i s → Ok (f s x) (flP (P (i + 1)) E V)) (he : ∀ s, P xs.length s → E s) (hk : ∀ s, E s → Ok (k (.nx s)) Q) (hr : ∀ v, V v → Ok (k (.rt v)) Q) : Ok ((forO f xs s).bind k) Q := by
  obtain ⟨z, h1, h2⟩ := ok_for P E V h st he
  rw [h1]
  cases z with
  | nx s => exact hk s h2
  | rt v => exact hr v h2
theorem ok_while {t : σ → Option Bool} {b : σ → Option (Fl σ σ ρ)} {n : Nat} {s : σ} {k : Rs σ ρ → Option β} {Q : β → Prop} (P : σ → Prop) (m : σ → Nat) (E : σ → Prop) (V : ρ → Prop) (hm : m s < n) (h : P s) (st : ∀ s, P s → Ok (t s) fun c => (c = false → E s) ∧ (c = true → Ok (b s) (flP (fun s' => P s' ∧ m s' < m s) E V))) (hk : ∀ s, E s → Ok (k (.nx s)) Q) (hr : ∀ v, V v → Ok (k (.rt v)) Q) : Ok ((whileO t b n s).bind k) Q := by
  obtain ⟨z, h1, h2⟩ := whileO_post (t := t) (b := b) P m (rsP E V) n s hm h fun s hs => by
    obtain ⟨c, h1, h2, h3⟩ := st s hs
    cases c with
    | false => exact .inl ⟨h1, h2 rfl⟩
    | true =>
      obtain ⟨z, h4, h5⟩ := h3 rfl
      refine .inr ⟨h1, ?_⟩
      cases z with
      | nx s' => exact .inl ⟨s', .inl h4, h5⟩
      | ct s' => exact .inl ⟨s', .inr h4, h5⟩
      | bk s' => exact .inr (.inl ⟨s', h4, h5⟩)
      | rt v => exact .inr (.inr ⟨v, h4, h5⟩)
  rw [h1]
  cases z with
  | nx s => exact hk s h2
  | rt v => exact hr v h2
theorem ok_mapO {f : α → Option β} {xs : List α} (P : α → β → Prop) (hl : xs.length < 16777216) (h : ∀ x ∈ xs, Ok (f x) (P x)) : Ok (mapO xs f) (fun ys => ys.length = xs.length ∧ ∀ (i : Nat) (x : α) (y : β), xs[i]? = some x → ys[i]? = some y → P x y) := by
  unfold mapO; rw [if_pos (by rw [line_nat]; exact hl)]
  clear hl
  induction xs with
  | nil => exact ⟨[], rfl, rfl, fun i x y hx => by simp at hx⟩
  | cons a r ih =>
    obtain ⟨y, h1, h2⟩ := h a List.mem_cons_self
    obtain ⟨ys, h3, h4, h5⟩ := ih fun x hx => h x (List.mem_cons_of_mem _ hx)
    refine ⟨y :: ys, by simp only [mapL, h1, Option.bind_some, h3], by simp [h4], ?_⟩
    intro i x z hx hz
    cases i with
    | zero => simp at hx hz; subst hx hz; exact h2
    | succ i => simp at hx hz; exact h5 i x z hx hz
theorem ok_bmapO {f : α → Option β} {xs : List α} {k : List β → Option τ} {Q : τ → Prop} (P : α → β → Prop) (hl : xs.length < 16777216) (h : ∀ x ∈ xs, Ok (f x) (P x)) (hk : ∀ ys : List β, ys.length = xs.length → (∀ (i : Nat) (x : α) (y : β), xs[i]? = some x → ys[i]? = some y → P x y) → Ok (k ys) Q) : Ok ((mapO xs f).bind k) Q :=
  ok_bind (ok_mapO P hl h) fun ys hy => hk ys hy.1 hy.2
theorem ok_compS {f : σ → α → Option (Option β × σ)} {xs : List α} {s : σ} (P : Nat → List β → σ → Prop) (hl : xs.length < 16777216) (h : P 0 [] s) (st : ∀ i x ys s, xs[i]? = some x → P i ys s → Ok (f s x) fun z => ∃ y, z.1 = some y ∧ P (i + 1) (ys ++ [y]) z.2) : Ok (compS xs s f) (fun z => P xs.length z.1 z.2) := by
  obtain ⟨zs, s', h1, h2⟩ := compS_inv (f := f) P hl h fun i x ys s hx hp => by
    obtain ⟨⟨z1, z2⟩, h1, y, h2, h3⟩ := st i x ys s hx hp
    cases h2
    exact ⟨y, z2, h1, h3⟩
  exact ⟨(zs, s'), h1, h2⟩
theorem ok_bcompS {f : σ → α → Option (Option β × σ)} {xs : List α} {s : σ} {k : List β × σ → Option τ} {Q : τ → Prop} (P : Nat → List β → σ → Prop) (hl : xs.length < 16777216) (h : P 0 [] s) (st : ∀ i x ys s, xs[i]? = some x → P i ys s → Ok (f s x) fun z => ∃ y, z.1 = some y ∧ P (i + 1) (ys ++ [y]) z.2) (hk : ∀ z : List β × σ, P xs.length z.1 z.2 → Ok (k z) Q) : Ok ((compS xs s f).bind k) Q :=
  ok_bind (ok_compS P hl h st) hk
end
end Ev
set_option Elab.async false
set_option linter.all false
set_option maxRecDepth 100000
set_option maxHeartbeats 1000000
/-! Data in order. -/
namespace Ev
/-- rows, the first that differ decide -/
def lexB {α : Type} [DecidableEq α] (lt : α → α → Bool) : List α → List α → Bool
  | [], [] => false
  | [], _ :: _ => true
  | _ :: _, [] => false
  | x :: xs, y :: ys => if x = y then lexB lt xs ys else lt x y
/-- math.comb -/
def combO (a b : Int) : Option Int := if 0 ≤ a ∧ 0 ≤ b ∧ a < 2 ^ 64 ∧ (b ≤ 9000 ∨ a ≤ 18000) then some (PySem.W.mcComb a b) else none
namespace Lf
open PySem PySem.W
theorem f_comb {a b c : Int} (h : combO a b = some c) : combL [.int a, .int b] = some (.d (.int c)) := by
  unfold combO at h
  split at h
  · rename_i hc
    cases h
    show (if _ then _ else _) = _
    rw [if_pos hc]
  · cases h
theorem asBls_eB : ∀ xs : List Bool, asBls (xs.map eB) = some xs
  | [] => rfl
  | x :: r => by simp [asBls, asBls_eB r]
theorem f_all {xs : List Bool} : allBD (.lst (xs.map eB)) = some (.d (.bl (xs.all id))) := by unfold allBD; simp only [asBls_eB]
theorem f_any {xs : List Bool} : anyBD (.lst (xs.map eB)) = some (.d (.bl (xs.any id))) := by unfold anyBD; simp only [asBls_eB]
structure LtE {α : Type} [DecidableEq α] (enc : α → D) (dp : Nat) extends PyE enc dp where
  nn : ∀ x, enc x ≠ .non
  lt : α → α → Bool
  al : ∀ x y, W.alike (py x) (py y) = true
  lt_eq : ∀ x y, W.dataLt (py x) (py y) = lt x y
  of : ∀ x, ofPy (py x) = enc x
  sok : α → Bool
  tp : Bool
  hs : ∀ x, sok x = true → (match py x with | .tuple (_ :: _) => tp = true | .tuple [] => False | .none => False | _ => tp = false)
section
variable {α β γ δ : Type} [DecidableEq α] [DecidableEq β] [DecidableEq γ] [DecidableEq δ] {f : α → D} {g : β → D} {h : γ → D} {i : δ → D} {n n1 n2 n3 : Nat}
theorem eqv_dec (P : PyE f n) (x y : α) : (PyData.eqv (P.py x) (P.py y) = true) = (x = y) := by rw [P.eq]; simp
def leI : LtE eI 0 := { peI with
  nn := fun x => by simp, lt := fun x y => decide (x < y), al := fun x y => by simp [peI, W.alike], lt_eq := fun x y => W.dataLt_int x y, of := fun x => by simp [peI, ofPy], sok := fun _ => true, tp := false, hs := fun x _ => rfl }
theorem alike_e (P : LtE f n) : ∀ xs ys : List α, W.alikeAll (xs.map P.py) (ys.map P.py) = true
  | [], ys => by simp [W.alikeAll]
  | x :: xs, [] => by simp [W.alikeAll]
  | x :: xs, y :: ys => by simp [W.alikeAll, P.al, alike_e P xs ys]
theorem lex_e (P : LtE f n) : ∀ xs ys : List α, W.rowLt (xs.map P.py) (ys.map P.py) = lexB P.lt xs ys
  | [], [] => PyProof.Rows.lex_irrefl _
  | [], y :: ys => by
    show PyProof.Rows.lexLt PyProof.Rows.itemOrd (W.keyToksAll []) (W.keyToksAll (P.py y :: ys.map P.py)) = true
    simp only [W.keyToksAll]
    rfl
  | x :: xs, [] => by
    show PyProof.Rows.lexLt PyProof.Rows.itemOrd (W.keyToksAll (P.py x :: xs.map P.py)) (W.keyToksAll []) = false
    simp only [W.keyToksAll]
    rfl
  | x :: xs, y :: ys => by
    show PyProof.Rows.lexLt PyProof.Rows.itemOrd (W.keyToksAll (P.py x :: xs.map P.py)) (W.keyToksAll (P.py y :: ys.map P.py)) = _
    rw [W.dataLt_cons (P.al x y), P.lt_eq]
    unfold lexB
    by_cases e : x = y
    · rw [if_pos (by rw [P.eq]; simpa using e), if_pos e]; exact lex_e P xs ys
    · rw [if_neg (by rw [P.eq]; simpa using e), if_neg e]
theorem of_all (P : LtE f n) : ∀ xs : List α, ofPys (xs.map P.py) = xs.map f
  | [] => by simp [ofPys]
  | x :: r => by simp [ofPys, P.of, of_all P r]
def leT (P : LtE f n) : LtE (eT f) (n + 1) := { peT P.toPyE with
  nn := fun x => by simp
  lt := lexB P.lt
  al := fun x y => by simp only [peT, W.alike]; exact alike_e P x y
  lt_eq := fun x y => by simp only [peT, W.dataLt_tuple]; exact lex_e P x y
  of := fun x => by simp [peT, ofPy, of_all P]
  sok := fun x => !x.isEmpty
  tp := true
  hs := fun x hx => by cases x with | nil => cases hx | cons a r => rfl }
def leP2 (P : LtE f n) (Q : LtE g n1) : LtE (eP2 f g) (max n n1 + 1) := { peP2 P.toPyE Q.toPyE with
  nn := fun x => by simp
  lt := fun x y => if x.1 = y.1 then (if x.2 = y.2 then false else Q.lt x.2 y.2) else P.lt x.1 y.1
  al := fun x y => by simp [peP2, W.alike, W.alikeAll, P.al, Q.al]
  lt_eq := fun x y => by
    simp only [peP2, W.dataLt_tuple]
    rw [W.dataLt_cons (P.al _ _), W.dataLt_cons (Q.al _ _), P.lt_eq, Q.lt_eq, PyProof.Rows.lex_irrefl]
    simp only [eqv_dec]
  of := fun x => by simp [peP2, ofPy, ofPys, P.of, Q.of]
  sok := fun _ => true
  tp := true
  hs := fun x hx => rfl }
def leP3 (P : LtE f n) (Q : LtE g n1) (S : LtE h n2) : LtE (eP3 f g h) (max n (max n1 n2) + 1) := { peP3 P.toPyE Q.toPyE S.toPyE with
  nn := fun x => by simp
  lt := fun x y => if x.1 = y.1 then (if x.2.1 = y.2.1 then (if x.2.2 = y.2.2 then false else S.lt x.2.2 y.2.2) else Q.lt x.2.1 y.2.1) else P.lt x.1 y.1
  al := fun x y => by simp [peP3, W.alike, W.alikeAll, P.al, Q.al, S.al]
  lt_eq := fun x y => by
    simp only [peP3, W.dataLt_tuple]
    rw [W.dataLt_cons (P.al _ _), W.dataLt_cons (Q.al _ _), W.dataLt_cons (S.al _ _), P.lt_eq, Q.lt_eq, S.lt_eq, PyProof.Rows.lex_irrefl]
    simp only [eqv_dec]
  of := fun x => by simp [peP3, ofPy, ofPys, P.of, Q.of, S.of]
  sok := fun _ => true
  tp := true
  hs := fun x hx => rfl }
theorem okLt_e (P : LtE f n) (hn : n ≤ 32) (x y : α) : okLt (P.py x) (P.py y) = true := by
  simp only [okLt, okD_e P.toPyE hn, P.al, Bool.and_true, Bool.true_and]
  have := py_nn P.toPyE P.nn x
  cases h : P.py x <;> simp_all
theorem ltD_e (P : LtE f n) (hn : n ≤ 32) (x y : α) (F : PyData → PyData → Bool) : ltD F (f x) (f y) = some (F (P.py x) (P.py y)) := by
  simp only [ltD, P.h, okLt_e P hn, if_true]
theorem int_of (P : LtE f n) {x : α} {a : Int} (h : f x = .int a) : P.py x = .int a := by
  have := P.h x
  rw [h] at this
  simp only [D.py, Option.some.injEq] at this
  exact this.symm
end
end Lf
/-- x < y, by an order of data -/
def ltB {α : Type} [DecidableEq α] {enc : α → D} {dp : Nat} (P : Lf.LtE enc dp) (x y : α) : Bool := P.lt x y
def minG {α : Type} [DecidableEq α] {enc : α → D} {dp : Nat} (P : Lf.LtE enc dp) : List α → Option α
  | [] => none
  | a :: r => some (r.foldl (fun s y => if P.lt y s then y else s) a)
def maxG {α : Type} [DecidableEq α] {enc : α → D} {dp : Nat} (P : Lf.LtE enc dp) : List α → Option α
  | [] => none
  | a :: r => some (r.foldl (fun s y => if P.lt s y then y else s) a)
def srtG {α : Type} [DecidableEq α] {enc : α → D} {dp : Nat} (P : Lf.LtE enc dp) (xs : List α) : Option (List α) := if xs.all P.sok && decide (xs.length ≤ line) then some (xs.mergeSort fun a b => !P.lt b a) else none
namespace Lf
open PySem PySem.W
section
variable {α : Type} [DecidableEq α] {f : α → D} {n : Nat}
theorem lt_l (P : LtE f n) (hn : n ≤ 32) (x y : α) : cmpD .Lt (f x) (f y) = some (ltB P x y) := by
  have e := ltD_e P hn x y W.dataLt
  have gen : cmpD .Lt (f x) (f y) = ltD W.dataLt (f x) (f y) := by
    cases hx : f x with
    | int a => cases hy : f y with
      | int b =>
        rw [hx, hy] at e
        rw [e, int_of P hx, int_of P hy, W.dataLt_int]; rfl
      | _ => rfl
    | _ => rfl
  rw [gen, e, P.lt_eq]; rfl
theorem gt_l (P : LtE f n) (hn : n ≤ 32) (x y : α) : cmpD .Gt (f x) (f y) = some (ltB P y x) := by
  have e := ltD_e P hn x y (fun a b => W.dataLt b a)
  have gen : cmpD .Gt (f x) (f y) = ltD (fun a b => W.dataLt b a) (f x) (f y) := by
    cases hx : f x with
    | int a => cases hy : f y with
      | int b =>
        rw [hx, hy] at e
        rw [e, int_of P hx, int_of P hy, W.dataLt_int]; rfl
      | _ => rfl
    | _ => rfl
  rw [gen, e, P.lt_eq]; rfl
theorem le_l (P : LtE f n) (hn : n ≤ 32) (x y : α) : cmpD .LtE (f x) (f y) = some (!ltB P y x) := by
  have e := ltD_e P hn x y (fun a b => !W.dataLt b a)
  have gen : cmpD .LtE (f x) (f y) = ltD (fun a b => !W.dataLt b a) (f x) (f y) := by
    cases hx : f x with
    | int a => cases hy : f y with
      | int b =>
        rw [hx, hy] at e
        rw [e, int_of P hx, int_of P hy, W.dataLt_int]
        show some (decide (a ≤ b)) = _
        by_cases z : b < a
        · simp [z]
        · simp [z, Int.not_lt.mp z]
      | _ => rfl
    | _ => rfl
  rw [gen, e, P.lt_eq]; rfl
theorem ge_l (P : LtE f n) (hn : n ≤ 32) (x y : α) : cmpD .GtE (f x) (f y) = some (!ltB P x y) := by
  have e := ltD_e P hn x y (fun a b => !W.dataLt a b)
  have gen : cmpD .GtE (f x) (f y) = ltD (fun a b => !W.dataLt a b) (f x) (f y) := by
    cases hx : f x with
    | int a => cases hy : f y with
      | int b =>
        rw [hx, hy] at e
        rw [e, int_of P hx, int_of P hy, W.dataLt_int]
        show some (decide (b ≤ a)) = _
        by_cases z : a < b
        · simp [z]
        · simp [z, Int.not_lt.mp z]
      | _ => rfl
    | _ => rfl
  rw [gen, e, P.lt_eq]; rfl
theorem okAll_e (P : LtE f n) (hn : n ≤ 32) (xs : List α) : okAll (xs.map P.py) = true := by
  simp only [okAll, List.all_eq_true, List.mem_map]
  rintro _ ⟨a, _, rfl⟩ _ ⟨b, _, rfl⟩
  exact okLt_e P hn a b
theorem minD_e (P : LtE f n) (a : α) : ∀ r : List α, W.minD (P.py a) (r.map P.py) = P.py (r.foldl (fun s y => if P.lt y s then y else s) a) := by
  intro r
  unfold W.minD
  induction r generalizing a with
  | nil => rfl
  | cons b r ih =>
    rw [List.map_cons, List.foldl_cons, List.foldl_cons, P.lt_eq, ← ih]
    cases P.lt b a <;> rfl
theorem maxD_e (P : LtE f n) (a : α) : ∀ r : List α, W.maxD (P.py a) (r.map P.py) = P.py (r.foldl (fun s y => if P.lt s y then y else s) a) := by
  intro r
  unfold W.maxD
  induction r generalizing a with
  | nil => rfl
  | cons b r ih =>
    rw [List.map_cons, List.foldl_cons, List.foldl_cons, P.lt_eq, ← ih]
    cases P.lt a b <;> rfl
theorem f_minG (P : LtE f n) (hn : n ≤ 32) {x : D} {xs : List α} {v : α} (h : x.items = some (xs.map f)) (hv : minG P xs = some v) : minD x = some (.d (f v)) := by
  cases xs with
  | nil => cases hv
  | cons a r =>
    cases hv
    have hp := pys_e P.toPyE (a :: r)
    have ho := okAll_e P hn (a :: r)
    simp only [List.map_cons] at hp ho
    unfold minD
    simp only [h, List.map_cons, hp]
    rw [if_pos ho, minD_e P, P.of]
theorem f_maxG (P : LtE f n) (hn : n ≤ 32) {x : D} {xs : List α} {v : α} (h : x.items = some (xs.map f)) (hv : maxG P xs = some v) : maxD x = some (.d (f v)) := by
  cases xs with
  | nil => cases hv
  | cons a r =>
    cases hv
    have hp := pys_e P.toPyE (a :: r)
    have ho := okAll_e P hn (a :: r)
    simp only [List.map_cons] at hp ho
    unfold maxD
    simp only [h, List.map_cons, hp]
    rw [if_pos ho, maxD_e P, P.of]
theorem f_srtG (P : LtE f n) (hn : n ≤ 32) {x : D} {xs ys : List α} (h : x.items = some (xs.map f)) (hv : srtG P xs = some ys) : sortD x = some (.lst (ys.map (mD f))) := by
  unfold srtG at hv
  split at hv
  · rename_i hc
    cases hv
    obtain ⟨h1, h2⟩ := Bool.and_eq_true_iff.mp hc
    have h2 := of_decide_eq_true h2
    have hm : ((xs.map P.py).mergeSort (W.dataLe false id)) = ((xs.mergeSort fun a b => !P.lt b a).map P.py) := by
      rw [← List.map_mergeSort (r := fun a b => !P.lt b a) (s := W.dataLe false id)]
      intro a _ b _
      show _ = (!W.dataLt (P.py b) (P.py a))
      rw [P.lt_eq]
    have ok : srtOk (xs.map P.py) = true := by
      simp only [srtOk, okAll_e P hn, Bool.true_and, Bool.or_eq_true, List.all_eq_true, List.mem_map]
      cases ht : P.tp with
      | true =>
        left
        rintro _ ⟨a, ha, rfl⟩
        have := P.hs a (List.all_eq_true.mp h1 a ha)
        cases hp : P.py a with
        | tuple l => cases l with
          | nil => rw [hp] at this; exact absurd this id
          | cons _ _ => rfl
        | none => rw [hp] at this; exact absurd this id
        | _ => rw [hp, ht] at this; cases this
      | false =>
        right
        rintro _ ⟨a, ha, rfl⟩
        have := P.hs a (List.all_eq_true.mp h1 a ha)
        cases hp : P.py a with
        | tuple l => cases l with
          | nil => rw [hp] at this; exact absurd this id
          | cons _ _ => rw [hp, ht] at this; cases this
        | none => rw [hp] at this; exact absurd this id
        | _ => rfl
    simp only [sortD, h, pys_e P.toPyE]
    rw [if_pos (by simp [ok, h2]), hm, of_all P, List.map_map]; rfl
  · cases hv
end
end Lf
end Ev
set_option Elab.async false
set_option linter.all false
set_option maxRecDepth 100000
set_option maxHeartbeats 1000000
/-! Linear orders, least ones, rows that rise. -/
namespace Ev
structure Lin {α : Type} (lt : α → α → Bool) : Prop where
  irr : ∀ x, lt x x = false
  tri : ∀ x y, lt x y = false → lt y x = false → x = y
  tr : ∀ x y z, lt x y = true → lt y z = true → lt x z = true
theorem Lin.nt {α : Type} {lt : α → α → Bool} (L : Lin lt) {x y z : α} (h1 : lt y x = false) (h2 : lt z y = false) : lt z x = false := by
  cases e : lt z x with
  | false => rfl
  | true =>
    cases e2 : lt x y with
    | true => rw [L.tr z x y e e2] at h2; cases h2
    | false =>
      have := L.tri x y e2 h1
      subst this
      rw [e] at h2; cases h2
theorem Lin.asy {α : Type} {lt : α → α → Bool} (L : Lin lt) {x y : α} (h : lt x y = true) : lt y x = false := by
  cases e : lt y x with
  | false => rfl
  | true =>
    have := L.tr x y x h e
    rw [L.irr] at this; cases this
theorem lin_int : Lin (fun x y : Int => decide (x < y)) where
  irr := fun x => by simp
  tri := fun x y h1 h2 => by simp at h1 h2; omega
  tr := fun x y z h1 h2 => by simp at h1 h2 ⊢; omega
theorem lin_lex {α : Type} [DecidableEq α] {lt : α → α → Bool} (L : Lin lt) : Lin (lexB lt) where
  irr := fun x => by
    induction x with
    | nil => rfl
    | cons a r ih => unfold lexB; rw [if_pos rfl]; exact ih
  tri := fun x => by
    induction x with
    | nil => intro y h1 h2; cases y with
      | nil => rfl
      | cons b s => cases h1
    | cons a r ih => intro y h1 h2; cases y with
      | nil => cases h2
      | cons b s =>
        unfold lexB at h1 h2
        by_cases e : a = b
        · subst e
          rw [if_pos rfl] at h1 h2
          rw [ih s h1 h2]
        · rw [if_neg e] at h1
          rw [if_neg fun z => e z.symm] at h2
          exact absurd (L.tri a b h1 h2) e
  tr := fun x => by
    induction x with
    | nil => intro y z h1 h2; cases z with
      | nil => cases y with
        | nil => cases h1
        | cons b s => cases h2
      | cons c t => rfl
    | cons a r ih => intro y z h1 h2; cases y with
      | nil => cases h1
      | cons b s => cases z with
        | nil => cases h2
        | cons c t =>
          unfold lexB at h1 h2 ⊢
          by_cases e : a = b
          · subst e
            rw [if_pos rfl] at h1
            by_cases e2 : a = c
            · subst e2
              rw [if_pos rfl] at h2 ⊢
              exact ih s t h1 h2
            · rw [if_neg e2] at h2 ⊢; exact h2
          · rw [if_neg e] at h1
            by_cases e2 : b = c
            · subst e2
              rw [if_neg e]; exact h1
            · rw [if_neg e2] at h2
              have h3 := L.tr a b c h1 h2
              rw [if_neg fun z => by subst z; rw [L.irr] at h3; cases h3]
              exact h3
theorem lin_p2 {α β : Type} [DecidableEq α] [DecidableEq β] {l1 : α → α → Bool} {l2 : β → β → Bool} (L1 : Lin l1) (L2 : Lin l2) : Lin (fun x y : α × β => if x.1 = y.1 then (if x.2 = y.2 then false else l2 x.2 y.2) else l1 x.1 y.1) where
  irr := fun x => by simp
  tri := fun ⟨x1, x2⟩ ⟨y1, y2⟩ h1 h2 => by
    dsimp only at h1 h2
    by_cases e : x1 = y1
    · subst e
      rw [if_pos rfl] at h1 h2
      by_cases e2 : x2 = y2
      · rw [e2]
      · rw [if_neg e2] at h1
        rw [if_neg fun z => e2 z.symm] at h2
        rw [L2.tri _ _ h1 h2]
    · rw [if_neg e] at h1
      rw [if_neg fun z => e z.symm] at h2
      exact absurd (L1.tri _ _ h1 h2) e
  tr := fun ⟨x1, x2⟩ ⟨y1, y2⟩ ⟨z1, z2⟩ h1 h2 => by
    dsimp only at h1 h2 ⊢
    by_cases e : x1 = y1
    · subst e
      rw [if_pos rfl] at h1
      by_cases e3 : x1 = z1
      · subst e3
        rw [if_pos rfl] at h2 ⊢
        by_cases f1 : x2 = y2
        · rw [if_pos f1] at h1; cases h1
        · rw [if_neg f1] at h1
          by_cases f2 : y2 = z2
          · rw [if_pos f2] at h2; cases h2
          · rw [if_neg f2] at h2
            have h3 := L2.tr _ _ _ h1 h2
            rw [if_neg fun z => by subst z; rw [L2.irr] at h3; cases h3]
            exact h3
      · rw [if_neg e3] at h2 ⊢; exact h2
    · rw [if_neg e] at h1
      by_cases e3 : y1 = z1
      · subst e3
        rw [if_neg e]; exact h1
      · rw [if_neg e3] at h2
        have h3 := L1.tr _ _ _ h1 h2
        rw [if_neg fun z => by subst z; rw [L1.irr] at h3; cases h3]
        exact h3
theorem lin_p3 {α β γ : Type} [DecidableEq α] [DecidableEq β] [DecidableEq γ] {l1 : α → α → Bool} {l2 : β → β → Bool} {l3 : γ → γ → Bool} (L1 : Lin l1) (L2 : Lin l2) (L3 : Lin l3) : Lin (fun x y : α × β × γ => if x.1 = y.1 then (if x.2.1 = y.2.1 then (if x.2.2 = y.2.2 then false else l3 x.2.2 y.2.2) else l2 x.2.1 y.2.1) else l1 x.1 y.1) := by
  have h := lin_p2 L1 (lin_p2 L2 L3)
  have e : (fun x y : α × β × γ => if x.1 = y.1 then (if x.2 = y.2 then false else (if x.2.1 = y.2.1 then (if x.2.2 = y.2.2 then false else l3 x.2.2 y.2.2) else l2 x.2.1 y.2.1)) else l1 x.1 y.1) = (fun x y : α × β × γ => if x.1 = y.1 then (if x.2.1 = y.2.1 then (if x.2.2 = y.2.2 then false else l3 x.2.2 y.2.2) else l2 x.2.1 y.2.1) else l1 x.1 y.1) := by
    funext x y
    by_cases h1 : x.1 = y.1
    · rw [if_pos h1, if_pos h1]
      by_cases h2 : x.2 = y.2
      · rw [if_pos h2, h2]; simp
      · rw [if_neg h2]
    · rw [if_neg h1, if_neg h1]
  rw [← e]; exact h
theorem minG_ok {α : Type} [DecidableEq α] {enc : α → D} {dp : Nat} {P : Lf.LtE enc dp} (L : Lin P.lt) {xs : List α} (h : xs ≠ []) : ∃ m, minG P xs = some m ∧ m ∈ xs ∧ ∀ x ∈ xs, P.lt x m = false := by
  cases xs with
  | nil => exact absurd rfl h
  | cons a r =>
    refine ⟨_, rfl, ?_⟩
    have go : ∀ (r : List α) (a : α), let m := r.foldl (fun s y => if P.lt y s = true then y else s) a; (m = a ∨ m ∈ r) ∧ P.lt a m = false ∧ ∀ x ∈ r, P.lt x m = false := by
      intro r
      induction r with
      | nil => intro a; exact ⟨.inl rfl, L.irr a, fun x hx => nomatch hx⟩
      | cons b t ih =>
        intro a
        simp only [List.foldl_cons]
        cases e : P.lt b a with
        | true =>
          obtain ⟨h1, h2, h3⟩ := ih b
          simp only [if_true] at h1 h2 h3 ⊢
          refine ⟨?_, ?_, ?_⟩
          · rcases h1 with h1 | h1
            · exact .inr (by rw [h1]; exact List.mem_cons_self)
            · exact .inr (List.mem_cons_of_mem _ h1)
          · exact L.nt h2 (L.asy e)
          · intro x hx
            rcases List.mem_cons.mp hx with rfl | hx
            · exact h2
            · exact h3 x hx
        | false =>
          obtain ⟨h1, h2, h3⟩ := ih a
          simp only [Bool.false_eq_true, if_false] at h1 h2 h3 ⊢
          refine ⟨?_, h2, ?_⟩
          · rcases h1 with h1 | h1
            · exact .inl h1
            · exact .inr (List.mem_cons_of_mem _ h1)
          · intro x hx
            rcases List.mem_cons.mp hx with rfl | hx
            · exact L.nt h2 e
            · exact h3 x hx
    obtain ⟨h1, h2, h3⟩ := go r a
    refine ⟨?_, ?_⟩
    · rcases h1 with h1 | h1
      · exact List.mem_cons.mpr (.inl h1)
      · exact List.mem_cons_of_mem _ h1
    · intro x hx
      rcases List.mem_cons.mp hx with rfl | hx
      · exact h2
      · exact h3 x hx
theorem maxG_ok {α : Type} [DecidableEq α] {enc : α → D} {dp : Nat} {P : Lf.LtE enc dp} (L : Lin P.lt) {xs : List α} (h : xs ≠ []) : ∃ m, maxG P xs = some m ∧ m ∈ xs ∧ ∀ x ∈ xs, P.lt m x = false := by
  cases xs with
  | nil => exact absurd rfl h
  | cons a r =>
    refine ⟨_, rfl, ?_⟩
    have go : ∀ (r : List α) (a : α), let m := r.foldl (fun s y => if P.lt s y = true then y else s) a; (m = a ∨ m ∈ r) ∧ P.lt m a = false ∧ ∀ x ∈ r, P.lt m x = false := by
      intro r
      induction r with
      | nil => intro a; exact ⟨.inl rfl, L.irr a, fun x hx => nomatch hx⟩
      | cons b t ih =>
        intro a
        simp only [List.foldl_cons]
        cases e : P.lt a b with
        | true =>
          obtain ⟨h1, h2, h3⟩ := ih b
          simp only [if_true] at h1 h2 h3 ⊢
          refine ⟨?_, ?_, ?_⟩
          · rcases h1 with h1 | h1
            · exact .inr (by rw [h1]; exact List.mem_cons_self)
            · exact .inr (List.mem_cons_of_mem _ h1)
          · exact L.nt (L.asy e) h2
          · intro x hx
            rcases List.mem_cons.mp hx with rfl | hx
            · exact h2
            · exact h3 x hx
        | false =>
          obtain ⟨h1, h2, h3⟩ := ih a
          simp only [Bool.false_eq_true, if_false] at h1 h2 h3 ⊢
          refine ⟨?_, h2, ?_⟩
          · rcases h1 with h1 | h1
            · exact .inl h1
            · exact .inr (List.mem_cons_of_mem _ h1)
          · intro x hx
            rcases List.mem_cons.mp hx with rfl | hx
            · exact L.nt e h2
            · exact h3 x hx
    obtain ⟨h1, h2, h3⟩ := go r a
    refine ⟨?_, ?_⟩
    · rcases h1 with h1 | h1
      · exact List.mem_cons.mpr (.inl h1)
      · exact List.mem_cons_of_mem _ h1
    · intro x hx
      rcases List.mem_cons.mp hx with rfl | hx
      · exact h2
      · exact h3 x hx
theorem srtG_ok {α : Type} [DecidableEq α] {enc : α → D} {dp : Nat} {P : Lf.LtE enc dp} (L : Lin P.lt) {xs : List α} (hs : ∀ x ∈ xs, P.sok x = true) (h : xs.length ≤ 16777216) : ∃ ys, srtG P xs = some ys ∧ ys.Perm xs ∧ ys.Pairwise fun a b => P.lt b a = false := by
  refine ⟨xs.mergeSort fun a b => !P.lt b a, ?_, List.mergeSort_perm _ _, ?_⟩
  · unfold srtG
    rw [if_pos]
    rw [Bool.and_eq_true]
    exact ⟨List.all_eq_true.mpr hs, by rw [line_nat]; simpa using h⟩
  · have := List.pairwise_mergeSort (le := fun a b => !P.lt b a) (fun a b c h1 h2 => by
      simp only [Bool.not_eq_true'] at h1 h2 ⊢
      exact L.nt h1 h2) (fun a b => by
      cases e : P.lt b a with
      | false => rfl
      | true => rw [L.asy e]; rfl) xs
    exact this.imp fun h => by simpa using h
theorem perm_lin {α : Type} {lt : α → α → Bool} (L : Lin lt) : ∀ {xs ys : List α}, xs.Perm ys → xs.Pairwise (fun a b => lt b a = false) → ys.Pairwise (fun a b => lt b a = false) → xs = ys := fun {xs ys} h h1 h2 =>
  h.eq_of_pairwise (le := fun a b => lt b a = false) (fun a b _ _ h1 h2 => L.tri a b h2 h1) h1 h2
/-! ### comprehensions that leave out -/
def addO {β : Type} (ys : List β) : Option β → List β
  | some y => ys ++ [y]
  | none => ys
theorem compLS_fil {α β σ : Type} {f : σ → α → Option (Option β × σ)} (P : Nat → List β → σ → Prop) : ∀ (xs : List α) (n : Nat) (ys : List β) (s : σ), P n ys s → (∀ i x ys s, xs[i]? = some x → P (n + i) ys s → Ok (f s x) fun z => P (n + i + 1) (addO ys z.1) z.2) → ∃ zs s', compLS f xs s = some (zs, s') ∧ P (n + xs.length) (ys ++ zs) s'
  | [], n, ys, s, h, _ => ⟨[], s, rfl, by simpa using h⟩
  | x :: r, n, ys, s, h, st => by
    obtain ⟨⟨o, s1⟩, h1, h2⟩ := st 0 x ys s rfl h
    obtain ⟨zs, s', h3, h4⟩ := compLS_fil P r (n + 1) (addO ys o) s1 h2 fun i x ys s hx hp => by
      have := st (i + 1) x ys s (by simpa using hx) (by rw [show n + (i + 1) = n + 1 + i by omega]; exact hp)
      rw [show n + (i + 1) + 1 = n + 1 + i + 1 by omega] at this
      exact this
    cases o with
    | none =>
      refine ⟨zs, s', by simp only [compLS, h1, Option.bind_some, h3], ?_⟩
      rw [show n + (x :: r).length = n + 1 + r.length by simp; omega]
      exact h4
    | some y =>
      refine ⟨y :: zs, s', by simp only [compLS, h1, Option.bind_some, h3], ?_⟩
      rw [show n + (x :: r).length = n + 1 + r.length by simp; omega]
      simpa [addO] using h4
theorem ok_compF {α β σ : Type} {f : σ → α → Option (Option β × σ)} {xs : List α} {s : σ} (P : Nat → List β → σ → Prop) (hl : xs.length < 16777216) (h : P 0 [] s) (st : ∀ i x ys s, xs[i]? = some x → P i ys s → Ok (f s x) fun z => P (i + 1) (addO ys z.1) z.2) : Ok (compS xs s f) (fun z => P xs.length z.1 z.2) := by
  unfold compS; rw [if_pos (by rw [line_nat]; exact hl)]
  obtain ⟨zs, s', h1, h2⟩ := compLS_fil P xs 0 [] s h fun i x ys s hx hp => by rw [Nat.zero_add] at hp ⊢; exact st i x ys s hx hp
  exact ⟨(zs, s'), h1, by simpa using h2⟩
theorem ok_bcompF {α β σ τ : Type} {f : σ → α → Option (Option β × σ)} {xs : List α} {s : σ} {k : List β × σ → Option τ} {Q : τ → Prop} (P : Nat → List β → σ → Prop) (hl : xs.length < 16777216) (h : P 0 [] s) (st : ∀ i x ys s, xs[i]? = some x → P i ys s → Ok (f s x) fun z => P (i + 1) (addO ys z.1) z.2) (hk : ∀ z : List β × σ, P xs.length z.1 z.2 → Ok (k z) Q) : Ok ((compS xs s f).bind k) Q :=
  ok_bind (ok_compF P hl h st) hk
/-! ### rows that rise -/
abbrev Rise (xs : List Int) : Prop := xs.Pairwise (· < ·)
theorem Rise.nd {xs : List Int} (h : Rise xs) : xs.Nodup := List.Pairwise.imp (fun h => by omega) h
theorem Rise.eq {xs ys : List Int} (h : xs.Perm ys) (h1 : Rise xs) (h2 : Rise ys) : xs = ys :=
  (isort_eq (.refl _) (h1.imp fun h => by omega)).symm.trans (isort_eq h (h2.imp fun h => by omega))
theorem isort_rise {xs : List Int} (h : xs.Nodup) : Rise (isort xs) := by
  have h1 := isort_le xs
  have h2 : (isort xs).Nodup := (isort_perm xs).nodup_iff.mpr h
  exact (List.Pairwise.and h1 h2).imp fun ⟨h1, h2⟩ => by omega
theorem nd_len {n : Int} {N : List Int} (nd : N.Nodup) (h : ∀ x ∈ N, 0 ≤ x ∧ x < n) : N.length ≤ n.toNat := by
  have : ∀ (m : Nat) (N : List Int), N.Nodup → (∀ x ∈ N, 0 ≤ x ∧ x < m) → N.length ≤ m := by
    intro m
    induction m with
    | zero =>
      intro N _ h
      cases N with
      | nil => simp
      | cons a r => have := h a List.mem_cons_self; omega
    | succ m ih =>
      intro N nd h
      by_cases hm : (m : Int) ∈ N
      · have e := (List.perm_cons_erase hm).length_eq
        have := ih (N.erase m) (nd.erase _) fun x hx => by
          have h1 := h x (List.mem_of_mem_erase hx)
          have h2 : x ≠ m := fun z => by subst z; exact (List.Nodup.not_mem_erase nd) hx
          omega
        simp at e; omega
      · have := ih N nd fun x hx => by
          have h1 := h x hx
          have h2 : x ≠ m := fun z => by subst z; exact hm hx
          omega
        omega
  have := this n.toNat N nd fun x hx => by have := h x hx; omega
  exact this
theorem fil_ne_perm {α : Type} [DecidableEq α] {x : α} {xs : List α} (nd : xs.Nodup) (h : x ∈ xs) : (x :: xs.filter fun y => !decide (y = x)).Perm xs := by
  have e : xs.filter (fun y => !decide (y = x)) = xs.erase x := by
    rw [nd.erase_eq_filter]
    exact List.filter_congr fun y _ => by by_cases e : y = x <;> simp [e]
  rw [e]
  exact (List.perm_cons_erase h).symm
theorem en_len {α : Type} (xs : List α) : (enumI xs).length = xs.length := by simp [enumI]
theorem en_get {α : Type} [Inhabited α] {xs : List α} {i : Nat} {x : Int × α} (h : (enumI xs)[i]? = some x) : i < xs.length ∧ x = ((i : Int), nth xs (i : Int)) := by
  have hl : i < xs.length := by have := (List.getElem?_eq_some_iff.mp h).1; rwa [en_len] at this
  refine ⟨hl, ?_⟩
  unfold enumI at h
  rw [List.getElem?_map, List.getElem?_eq_getElem (by simpa using hl)] at h
  simp at h
  rw [← h, nth_nat hl]
theorem en_at {α : Type} [Inhabited α] {xs : List α} {i : Nat} (h : i < xs.length) : (enumI xs)[i]? = some ((i : Int), nth xs (i : Int)) := by
  unfold enumI
  rw [List.getElem?_map, List.getElem?_eq_getElem (by simpa using h)]
  simp [nth_nat h]
theorem en_mem {α : Type} [Inhabited α] {xs : List α} {x : Int × α} : x ∈ enumI xs ↔ 0 ≤ x.1 ∧ x.1 < xs.length ∧ x.2 = nth xs x.1 := by
  constructor
  · intro h
    obtain ⟨i, hi⟩ := List.mem_iff_getElem?.mp h
    obtain ⟨hl, rfl⟩ := en_get hi
    exact ⟨by dsimp; omega, by dsimp; omega, rfl⟩
  · rintro ⟨h1, h2, h3⟩
    have := en_at (xs := xs) (i := x.1.toNat) (by omega)
    rw [show ((x.1.toNat : Nat) : Int) = x.1 by omega] at this
    rw [← h3] at this
    exact List.mem_of_getElem? this
theorem en_fst {α : Type} [Inhabited α] (xs : List α) : (enumI xs).map (·.1) = rangeI 0 xs.length := by
  apply List.ext_getElem?
  intro i
  by_cases h : i < xs.length
  · rw [List.getElem?_map, en_at h]
    unfold rangeI
    rw [List.getElem?_map, List.getElem?_range (by omega)]
    simp
  · rw [List.getElem?_eq_none (by rw [List.length_map, en_len]; omega), List.getElem?_eq_none (by rw [rgI_len]; omega)]
/-- the numbers of those that p takes -/
def nums {α : Type} [Inhabited α] (xs : List α) (p : Int × α → Bool) : List Int := ((enumI xs).filter p).map (·.1)
theorem nums_rise {α : Type} [Inhabited α] (xs : List α) (p : Int × α → Bool) : Rise (nums xs p) := by
  have h : (nums xs p).Sublist (rangeI 0 xs.length) := by
    rw [← en_fst]; exact List.Sublist.map _ List.filter_sublist
  exact (rgI_lt 0 xs.length).sublist h
theorem nums_mem {α : Type} [Inhabited α] {xs : List α} {p : Int × α → Bool} {k : Int} : k ∈ nums xs p ↔ 0 ≤ k ∧ k < xs.length ∧ p (k, nth xs k) = true := by
  unfold nums
  constructor
  · intro h
    obtain ⟨x, hx, rfl⟩ := List.mem_map.mp h
    obtain ⟨h1, h2⟩ := List.mem_filter.mp hx
    obtain ⟨h3, h4, h5⟩ := en_mem.mp h1
    refine ⟨h3, h4, ?_⟩
    rw [← h5]; exact h2
  · rintro ⟨h1, h2, h3⟩
    exact List.mem_map.mpr ⟨(k, nth xs k), List.mem_filter.mpr ⟨en_mem.mpr ⟨h1, h2, rfl⟩, h3⟩, rfl⟩
theorem nth_range {α : Type} [Inhabited α] (xs : List α) : (rangeI 0 xs.length).map (nth xs) = xs := by
  refine ext_nth (by rw [List.length_map, rgI_len]; omega) fun i h0 h1 => ?_
  rw [List.length_map, rgI_len] at h1
  rw [nth_map h0 (by rw [rgI_len]; omega), rgI_nth h0 (by omega), Int.zero_add]
theorem perm_of_nd {α : Type} [DecidableEq α] {xs ys : List α} (h1 : xs.Nodup) (h2 : ys.Nodup) (h : ∀ x, x ∈ xs ↔ x ∈ ys) : xs.Perm ys := by
  rw [List.perm_iff_count]
  intro a
  by_cases e : a ∈ xs
  · have c1 := List.nodup_iff_count.mp h1 a
    have c2 := List.nodup_iff_count.mp h2 a
    have c3 := List.count_pos_iff.mpr e
    have c4 := List.count_pos_iff.mpr ((h a).mp e)
    omega
  · rw [List.count_eq_zero.mpr e, List.count_eq_zero.mpr fun z => e ((h a).mpr z)]
/-! ### fractions in lowest terms -/
structure Red (p : Int × Int) : Prop where
  pos : 0 < p.2
  one : Nat.gcd p.1.natAbs p.2.natAbs = 1
theorem red_uniq {x y : Int × Int} (hx : Red x) (hy : Red y) (h : x.1 * y.2 = y.1 * x.2) : x = y := by
  have e := congrArg Int.natAbs h
  rw [Int.natAbs_mul, Int.natAbs_mul] at e
  have d1 : x.2.natAbs ∣ y.2.natAbs := Nat.Coprime.dvd_of_dvd_mul_left (m := x.1.natAbs) (by rw [Nat.coprime_comm]; exact hx.one) ⟨y.1.natAbs, by rw [e, Nat.mul_comm]⟩
  have d2 : y.2.natAbs ∣ x.2.natAbs := Nat.Coprime.dvd_of_dvd_mul_left (m := y.1.natAbs) (by rw [Nat.coprime_comm]; exact hy.one) ⟨x.1.natAbs, by rw [← e, Nat.mul_comm]⟩
  have e2 := Nat.dvd_antisymm d1 d2
  have p1 := hx.pos
  have p2 := hy.pos
  have e3 : x.2 = y.2 := by omega
  rw [e3] at h
  exact Prod.ext (Int.eq_of_mul_eq_mul_right (by omega) h) e3
theorem red_div {n d : Int} (hd : 0 < d) : Red (n / (Nat.gcd n.natAbs d.natAbs : Nat), d / (Nat.gcd n.natAbs d.natAbs : Nat)) ∧ (n / (Nat.gcd n.natAbs d.natAbs : Nat)) * d = n * (d / (Nat.gcd n.natAbs d.natAbs : Nat)) ∧ (0 : Int) < (Nat.gcd n.natAbs d.natAbs : Nat) ∧ ((Nat.gcd n.natAbs d.natAbs : Nat) : Int) ≤ d := by
  have g0 : 0 < Nat.gcd n.natAbs d.natAbs := Nat.gcd_pos_of_pos_right _ (by omega)
  generalize hg : Nat.gcd n.natAbs d.natAbs = g at g0
  have dn : (g : Int) ∣ n := Int.ofNat_dvd_left.mpr (hg ▸ Nat.gcd_dvd_left _ _)
  have dd : (g : Int) ∣ d := Int.ofNat_dvd_left.mpr (hg ▸ Nat.gcd_dvd_right _ _)
  obtain ⟨a, rfl⟩ := dn
  obtain ⟨b, rfl⟩ := dd
  have gp : (0 : Int) < g := by omega
  rw [Int.mul_ediv_cancel_left a (by omega), Int.mul_ediv_cancel_left b (by omega)]
  have bp : 0 < b := Int.pos_of_mul_pos_right hd gp
  refine ⟨⟨bp, ?_⟩, by rw [← Int.mul_assoc, Int.mul_comm a g], gp, by have := Int.mul_le_mul_of_nonneg_left (show (1 : Int) ≤ b by omega) (show (0 : Int) ≤ g by omega); omega⟩
  rw [Int.natAbs_mul, Int.natAbs_mul, Nat.gcd_mul_left] at hg
  have : (g : Int).natAbs = g := by omega
  rw [this] at hg
  exact Nat.eq_of_mul_eq_mul_left g0 (by rw [hg, Nat.mul_one])
/-! ### again and again -/
def itr {α : Type} (f : α → α) : Nat → α → α
  | 0, t => t
  | n + 1, t => f (itr f n t)
theorem itr_r {α : Type} (f : α → α) : ∀ (n : Nat) (t : α), itr f (n + 1) t = itr f n (f t)
  | 0, t => rfl
  | n + 1, t => by
    show f (itr f (n + 1) t) = f (itr f n (f t))
    rw [itr_r f n t]
theorem itr_add {α : Type} (f : α → α) (m : Nat) (t : α) : ∀ n : Nat, itr f (m + n) t = itr f n (itr f m t)
  | 0 => rfl
  | n + 1 => by
    show f (itr f (m + n) t) = f (itr f n (itr f m t))
    rw [itr_add f m t n]
theorem foldO_itr {α σ : Type} {f : σ → α → Option σ} (g : σ → σ) (h : ∀ s x, f s x = some (g s)) : ∀ (xs : List α) (s : σ), foldO f xs s = some (itr g xs.length s)
  | [], s => rfl
  | x :: r, s => by
    simp only [foldO, h, Option.bind_some]
    rw [foldO_itr g h r (g s), List.length_cons, itr_r]
end Ev
set_option Elab.async false
set_option linter.all false
set_option maxRecDepth 100000
set_option maxHeartbeats 1000000
/-! Comprehensions with two generators. -/
namespace Ev
open PySem PySem.Spec
def comp2O {α β : Type} (xs : List α) (f : α → Option (List β)) : Option (List β) := if xs.length < line then (mapL f xs).bind fun zs => if zs.flatten.length ≤ line then some zs.flatten else none else none
theorem wipe_back {e0 e : Env} {vs : List Nat} : wipeE (backE e0 e vs) vs = wipeE e vs := by
  have len : ∀ vs : List Nat, (backE e0 e vs).length = e.length := by
    intro vs
    induction vs with
    | nil => rfl
    | cons v vs ih => simp only [backE]; rw [List.length_set, ih]
  have get : ∀ (vs : List Nat) (j : Nat), j ∉ vs → (backE e0 e vs)[j]? = e[j]? := by
    intro vs
    induction vs with
    | nil => intro j _; rfl
    | cons v vs ih =>
      intro j hj
      simp only [backE]
      rw [List.getElem?_set_ne fun z => hj (by rw [z]; exact List.mem_cons_self), ih j fun z => hj (List.mem_cons_of_mem _ z)]
  apply List.ext_getElem?
  intro j
  rw [wE_get, wE_get, len]
  by_cases hj : j ∈ vs
  · by_cases h2 : j < e.length
    · simp [hj, h2]
    · rw [if_neg fun z => h2 z.2, if_neg fun z => h2 z.2, List.getElem?_eq_none (by rw [len]; omega), List.getElem?_eq_none (by omega)]
  · rw [if_neg fun z => hj z.1, if_neg fun z => hj z.1, get vs j hj]
namespace Lf
theorem cv_ts {α : Type} {f : α → D} (xs : List α) : (eT (eO f)) (xs.map some) = .tup (xs.map f) := by simp only [eT, List.map_map]; rfl
theorem cv_ls {α : Type} {f : α → D} (xs : List α) : (D.lst ((xs.map some).map (eO f))) = .lst (xs.map f) := by simp only [List.map_map]; rfl
theorem eq_c {α : Type} [DecidableEq α] {f : α → D} {n : Nat} {dx dy : D} (P : PyE f n) (hn : n ≤ 32) (x y : α) (hx : f x = dx) (hy : f y = dy) : eqD dx dy = some (decide (x = y)) := by subst hx hy; exact eq_e P hn x y
theorem ne_c {α : Type} [DecidableEq α] {f : α → D} {n : Nat} {dx dy : D} (P : PyE f n) (hn : n ≤ 32) (x y : α) (hx : f x = dx) (hy : f y = dy) : cmpD .NotEq dx dy = some (!decide (x = y)) := by subst hx hy; exact ne_e P hn x y
section
variable {α β : Type} {it it1 : SI} {g g1 : Tg} {t t1 : ST} {c : SE} {vs vs1 : List Nat} {enc : α → D} {xs : List α} {z : List β} {e e1 e2 E0 : Env}
theorem comp2_st (mβ : β → M) {f : α → Option (List β)} (hv : ∀ j ∈ vs1, j ∈ vs)
    (st : ∀ x r, f x = some r → ∃ ea eb ys ec e3, g.set (enc x) E0 = some ea ∧ t ea = some (true, eb) ∧ it1 eb = some (ys, ec) ∧ cComp vs1 (fun _ => some (ys, ec)) g1 t1 c ec = some (.lst (r.map mβ), e3) ∧ wipeE e3 vs = E0) :
    ∀ (xs : List α) (zs : List (List β)) (e : Env), wipeE e vs = E0 → mapL f xs = some zs → ∃ e', compL2 g t it1 g1 t1 c vs vs1 (xs.map enc) e = some (zs.flatten.map mβ, e') ∧ wipeE e' vs = E0
  | [], zs, e, h, hf => ⟨e, by cases hf; rfl, h⟩
  | x :: r, zs, e, h, hf => by
    obtain ⟨y, h1, h2⟩ := bnd hf
    obtain ⟨ys', h3, h4⟩ := bnd h2
    cases h4
    obtain ⟨ea, eb, ys, ec, e3, q1, q2, q3, q4, q5⟩ := st x y h1
    unfold cComp at q4
    simp only at q4
    split at q4
    · split at q4
      · rename_i ms ed hL
        cases q4
        obtain ⟨e', i1, i2⟩ := comp2_st mβ hv st r ys' ed (by
          rw [← q5, ← wipeE_sub hv (backE ec ed vs1), wipe_back, wipeE_sub hv]) h3
        refine ⟨e', ?_, i2⟩
        simp only [List.map_cons, compL2, h, q1, q2, q3, hL, i1, List.flatten_cons, List.map_append]
      · cases q4
    · cases q4
theorem d_comp2 (mβ : β → M) {f : α → Option (List β)} (h : comp2O xs f = some z) (hi : it e = some (xs.map enc, e1)) (hf : flatE e1 vs = true) (hg : (g.ns.all fun j => vs.contains j) = true) (hg1 : (g1.ns.all fun j => vs1.contains j) = true) (hv : (vs1.all fun j => vs.contains j) = true) (h0 : wipeE e1 vs = E0)
    (st : ∀ x r, f x = some r → ∃ ea eb ys ec e3, g.set (enc x) E0 = some ea ∧ t ea = some (true, eb) ∧ it1 eb = some (ys, ec) ∧ cComp vs1 (fun _ => some (ys, ec)) g1 t1 c ec = some (.lst (r.map mβ), e3) ∧ wipeE e3 vs = E0) (hb : backE e1 E0 vs = e2) : cComp2 vs vs1 it g t it1 g1 t1 c e = some (.lst (z.map mβ), e2) := by
  unfold comp2O at h
  split at h
  · rename_i hl
    obtain ⟨zs, h1, h2⟩ := bnd h
    split at h2
    · rename_i hl2
      cases h2
      have hv' : ∀ j ∈ vs1, j ∈ vs := fun j hj => by
        have := List.all_eq_true.mp hv j hj
        simpa using this
      obtain ⟨e', i1, i2⟩ := comp2_st mβ hv' st xs zs e1 h0 h1
      unfold cComp2
      simp only [hi]
      rw [if_pos ⟨by rw [List.length_map]; exact hl, hf, hg, hg1, hv⟩]
      simp only [i1]
      rw [if_pos (by rw [List.length_map]; exact hl2), ← back_wipe, i2, hb]
    · cases h2
  · cases h
end
end Lf
theorem flat_mapL {α β : Type} {f : α → Option (List β)} {g : α → List β} {xs : List α} (h : ∀ x ∈ xs, f x = some (g x)) (hl : xs.length < 16777216) (hl2 : (xs.flatMap g).length ≤ 16777216) : comp2O xs f = some (xs.flatMap g) := by
  unfold comp2O
  have e : (xs.map g).flatten = xs.flatMap g := rfl
  rw [if_pos (by rw [line_nat]; exact hl), mapL_ok h, Option.bind_some, e, if_pos (by rw [line_nat]; exact hl2)]
end Ev
set_option Elab.async false
set_option linter.all false
set_option maxRecDepth 100000
set_option maxHeartbeats 4000000
set_option pp.maxSteps 200
namespace Tw
open PySem Ev
def g__law_numbers (script : List Int) : Option (List Int) :=
  (foldO (fun (s1 : (List Int)) (x2 : Int) => (
      if (decide ((1000000000000000000 : Int) ≤ x2)) then
        (rngO 0 (60 : Int)).bind fun y7 =>
        (forO (fun (s8 : ((List Int) × Int)) (x9 : Int) => (
            if (decide (s8.2 = (0 : Int))) then
              some (.bk (s8.1, s8.2))
            else
              (pushO s8.1 (s8.2 % (997 : Int))).bind fun y11 =>
              some (.nx (y11, (s8.2 / (997 : Int)))) : Option (Fl ((List Int) × Int) ((List Int) × Int) (List Int)))) y7 (s1, x2)).bind fun z13 => match z13 with
        | .rt v => none
        | .nx s12 =>
          some s12.1
      else
        (rngO 0 (4 : Int)).bind fun y14 =>
        (foldO (fun (s15 : (List Int)) (x16 : Int) => (
            (pushO s15 (((((((x2 * (48271 : Int)) + (x16 * (69621 : Int))) + (11 : Int)) % (2147483647 : Int)) * (16807 : Int)) + x16) % (2147483629 : Int))).bind fun y19 =>
            some y19 : Option (List Int))) y14 s1).bind fun s20 =>
        some s20 : Option (List Int))) (cut script none (some (63 : Int))) []).bind fun s21 =>
  (if (decide ((s21.length : Int) = (0 : Int))) then
      (pushO s21 (0 : Int)).bind fun y22 =>
      some y22
    else
      some s21 : Option (List Int)).bind fun s23 =>
  some s23
theorem l__law_numbers {script : List Int} {vv : (List Int)} (kk : Nat) (hg : g__law_numbers script = some vv) : rn tb (kk + 2) ("_law_numbers", none) [.d (.frl (script.map eI))] = some (.lst (vv.map (mD eI)), []) := by
  unfold g__law_numbers at hg
  rw [r__law_numbers]
  refine runW (v := vv) (Rt := (fun (vv : (List Int)) (m : M) (e : Ev.Env) => m = .lst (vv.map (mD eI)) ∧ takeO [] e = some [])) rfl ?_ (fun m e h => h)
  show WS _ (b__law_numbers _ _ [some (.d (.frl (script.map eI))), none, none, none, none, none])
  refine ws (e1 := [some (.d (.frl (script.map eI))), some (.lst (([] : List Int).map (mD eI))), none, none, none, none]) (Lf.s_asg (Lf.c_lst Lf.em0 (Nat.le_of_ble_eq_true rfl)) rfl) ?_
  obtain ⟨s21, hs21, hg⟩ := bnd hg
  refine Lf.ws_forF (enc := eI) (xs := (cut script none (some (63 : Int)))) (fun (ss : (List Int)) ee => ∃ f3_ f4_ f5_ f6_, Lf.Fl0 f3_ ∧ Lf.Fl0 f4_ ∧ Lf.Fl0 f5_ ∧ Lf.Fl0 f6_ ∧ ee = [some (.d (.frl (script.map eI))), some (.lst (ss.map (mD eI))), f3_, f4_, f5_, f6_]) (Lf.i_v (Lf.c_sl (Lf.c_v rfl) fz_d Lf.o_n (Lf.o_s (Lf.c_p rfl)) Lf.sl_f) Lf.fz_own rfl) ⟨_, _, _, _, Lf.fl_n, Lf.fl_n, Lf.fl_n, Lf.fl_n, rfl⟩ hs21 ?_ ?_
  · intro s1 x2 ee vv he hg
    obtain ⟨f3_, f4_, f5_, f6_, hf3_, hf4_, hf5_, hf6_, rfl⟩ := he
    refine ⟨_, (Lf.g_n rfl), ?_⟩
    refine ws_if (Lf.t_b (Lf.c_cmp (Lf.c_v rfl) fz_d (Lf.b_i (Lf.c_p rfl) (Lf.c_p rfl) (show binI .Pow (10 : Int) (18 : Int) = some (1000000000000000000 : Int) by decide +kernel)) fz_d rfl)) (fun hb => ?_) (fun hb => ?_)
    · have hg := ite_t hb hg
      refine ws_assoc ?_
      refine ws (e1 := [some (.d (.frl (script.map eI))), some (.lst (s1.map (mD eI))), some (.d (.int x2)), some (.d (.int x2)), f5_, f6_]) (Lf.s_asg (Lf.c_v rfl) rfl) ?_
      refine ws_assoc ?_
      obtain ⟨y7, hy7, hg⟩ := bnd hg
      obtain ⟨z13, hz13, hg⟩ := bnd hg
      refine Lf.ws_forR (enc := eI) (xs := y7) (z := z13) (fun (ss : ((List Int) × Int)) ee => ∃ f10_, Lf.Fl0 f10_ ∧ ee = [some (.d (.frl (script.map eI))), some (.lst (ss.1.map (mD eI))), some (.d (.int x2)), some (.d (.int ss.2)), f10_, f6_]) (fun (vv : (List Int)) (m : M) (e : Ev.Env) => m = .lst (vv.map (mD eI)) ∧ takeO [] e = some []) (Lf.i_r1 (Lf.ef1 (Lf.c_p rfl) fz_d Lf.ef0) hy7) ⟨_, hf5_, rfl⟩ hz13 ?_ ?_ (fun v m ee hq hr => by subst hq; cases hg)
      · intro s8 x9 ee vv he hg
        obtain ⟨f10_, hf10_, rfl⟩ := he
        refine ⟨_, (Lf.g_n rfl), ?_⟩
        refine ws_if (Lf.t_b (Lf.c_cmp (Lf.c_v rfl) fz_d (Lf.c_p rfl) fz_d (Lf.eq_e Lf.peI (by decide) s8.2 (0 : Int)))) (fun hb => ?_) (fun hb => ?_)
        · have hg := ite_t hb hg
          refine ws_assoc ?_
          have hv := Option.some.inj hg
          subst hv
          exact ws_bk ⟨_, Lf.fl_d, rfl⟩
        · have hg := ite_f hb hg
          refine ws_skip ?_
          obtain ⟨y11, hy11, hg⟩ := bnd hg
          refine ws (e1 := [some (.d (.frl (script.map eI))), some (.lst (y11.map (mD eI))), some (.d (.int x2)), some (.d (.int s8.2)), some (.d (.int x9)), f6_]) (Lf.s_app (mf := (mD eI)) (v := (s8.2 % (997 : Int))) (xs := s8.1) rfl (Lf.b_i (Lf.c_bV (Lf.ef1 (Lf.c_v rfl) fz_d Lf.ef0) rfl) (Lf.c_p rfl) (Lf.mod_r (by decide))) rfl hy11 rfl) ?_
          refine ws (e1 := [some (.d (.frl (script.map eI))), some (.lst (y11.map (mD eI))), some (.d (.int x2)), some (.d (.int (s8.2 / (997 : Int)))), some (.d (.int x9)), f6_]) (Lf.s_asg (Lf.b_i (Lf.c_v rfl) (Lf.c_p rfl) (Lf.div_r (by decide) (by decide))) rfl) ?_
          have hv := Option.some.inj hg
          subst hv
          exact ws_end ⟨_, Lf.fl_d, rfl⟩
      intro s12 ee hq he
      subst hq
      obtain ⟨f10_, hf10_, rfl⟩ := he
      try dsimp only at hg
      refine ws_skip ?_
      have hv := Option.some.inj hg
      subst hv
      exact ws_end ⟨_, _, _, _, Lf.fl_d, Lf.fl_d, hf10_, hf6_, rfl⟩
    · have hg := ite_f hb hg
      refine ws_assoc ?_
      obtain ⟨y14, hy14, hg⟩ := bnd hg
      obtain ⟨s20, hs20, hg⟩ := bnd hg
      refine Lf.ws_forF (enc := eI) (xs := y14) (fun (ss : (List Int)) ee => ∃ f17_ f18_, Lf.Fl0 f17_ ∧ Lf.Fl0 f18_ ∧ ee = [some (.d (.frl (script.map eI))), some (.lst (ss.map (mD eI))), some (.d (.int x2)), f4_, f17_, f18_]) (Lf.i_r1 (Lf.ef1 (Lf.c_p rfl) fz_d Lf.ef0) hy14) ⟨_, _, hf5_, hf6_, rfl⟩ hs20 ?_ ?_
      · intro s15 x16 ee vv he hg
        obtain ⟨f17_, f18_, hf17_, hf18_, rfl⟩ := he
        refine ⟨_, (Lf.g_n rfl), ?_⟩
        refine ws (e1 := [some (.d (.frl (script.map eI))), some (.lst (s15.map (mD eI))), some (.d (.int x2)), f4_, some (.d (.int x16)), some (.d (.int ((((x2 * (48271 : Int)) + (x16 * (69621 : Int))) + (11 : Int)) % (2147483647 : Int))))]) (Lf.s_asg (Lf.b_i (Lf.c_bV (Lf.ef1 (Lf.b_i (Lf.b_i (Lf.b_i (Lf.c_v rfl) (Lf.c_p rfl) (Lf.mul_r (by decide))) (Lf.b_i (Lf.c_v rfl) (Lf.c_p rfl) (Lf.mul_r (by decide))) rfl) (Lf.c_p rfl) rfl) fz_d Lf.ef0) rfl) (Lf.c_p rfl) (Lf.mod_r (by decide))) rfl) ?_
        obtain ⟨y19, hy19, hg⟩ := bnd hg
        refine ws (e1 := [some (.d (.frl (script.map eI))), some (.lst (y19.map (mD eI))), some (.d (.int x2)), f4_, some (.d (.int x16)), some (.d (.int ((((x2 * (48271 : Int)) + (x16 * (69621 : Int))) + (11 : Int)) % (2147483647 : Int))))]) (Lf.s_app (mf := (mD eI)) (v := (((((((x2 * (48271 : Int)) + (x16 * (69621 : Int))) + (11 : Int)) % (2147483647 : Int)) * (16807 : Int)) + x16) % (2147483629 : Int))) (xs := s15) rfl (Lf.b_i (Lf.c_bV (Lf.ef1 (Lf.b_i (Lf.b_i (Lf.c_v rfl) (Lf.c_p rfl) (Lf.mul_r (by decide))) (Lf.c_v rfl) rfl) fz_d Lf.ef0) rfl) (Lf.c_p rfl) (Lf.mod_r (by decide))) rfl hy19 rfl) ?_
        have hv := Option.some.inj hg
        subst hv
        exact ws_end ⟨_, _, Lf.fl_d, Lf.fl_d, rfl⟩
      intro ee he
      obtain ⟨f17_, f18_, hf17_, hf18_, rfl⟩ := he
      refine ws_skip ?_
      have hv := Option.some.inj hg
      subst hv
      exact ws_end ⟨_, _, _, _, Lf.fl_d, hf4_, hf17_, hf18_, rfl⟩
  intro ee he
  obtain ⟨f3_, f4_, f5_, f6_, hf3_, hf4_, hf5_, hf6_, rfl⟩ := he
  obtain ⟨s23, hs23, hg⟩ := bnd hg
  refine Lf.ws_ifJ (s' := s23) (fun (ss : (List Int)) ee => ee = [some (.d (.frl (script.map eI))), some (.lst (ss.map (mD eI))), f3_, f4_, f5_, f6_]) (Lf.t_b (Lf.c_cmp (Lf.c_p (Lf.p_lena (Lf.k_ol rfl) (Lf.at0 rfl) Lf.len_m)) fz_d (Lf.c_p rfl) fz_d (Lf.eq_e Lf.peI (by decide) (s21.length : Int) (0 : Int)))) (fun hb => ?_) (fun hb => ?_) (fun ee he => ?_)
  · have hg := ite_t hb hs23
    obtain ⟨y22, hy22, hg⟩ := bnd hg
    refine ws (e1 := [some (.d (.frl (script.map eI))), some (.lst (y22.map (mD eI))), f3_, f4_, f5_, f6_]) (Lf.s_app (mf := (mD eI)) (v := (0 : Int)) (xs := s21) rfl (Lf.c_p rfl) rfl hy22 rfl) ?_
    have hv := Option.some.inj hg
    subst hv
    exact ws_end rfl
  · have hg := ite_f hb hs23
    have hv := Option.some.inj hg
    subst hv
    exact ws_end rfl
  subst he
  have hv := Option.some.inj hg
  subst hv
  exact ws_retV rfl rfl ⟨rfl, rfl⟩
def g__law_draw (row : List Int) (at_ : Int) (limit : Int) : Option Int :=
  if (decide (at_ < (row.length : Int))) then
    (ixO row at_).bind fun y1 =>
    (binI .Mod y1 limit).bind fun y2 =>
    some y2
  else
    (binI .Mod at_ (row.length : Int)).bind fun y3 =>
    (ixO row y3).bind fun y4 =>
    (binI .Mod (((((((y4 * (40692 : Int)) + (at_ * (7919 : Int))) + (3 : Int)) % (2147483399 : Int)) * (48271 : Int)) + at_) % (2147483647 : Int)) limit).bind fun y5 =>
    some y5
theorem l__law_draw {row : List Int} {at_ : Int} {limit : Int} {vv : Int} (kk : Nat) (hg : g__law_draw row at_ limit = some vv) : rn tb (kk + 2) ("_law_draw", none) [.d (.lst (row.map eI)), .d (.int at_), .d (.int limit)] = some (.d (.int vv), []) := by
  unfold g__law_draw at hg
  rw [r__law_draw]
  refine runW (v := vv) (Rt := (fun (vv : Int) (m : M) (e : Ev.Env) => m = .d (.int vv) ∧ takeO [] e = some [])) rfl ?_ (fun m e h => h)
  show WS _ (b__law_draw _ _ [some (.d (.lst (row.map eI))), some (.d (.int at_)), some (.d (.int limit)), none])
  refine ws_if (Lf.t_b (Lf.c_cmp (Lf.c_v rfl) fz_d (Lf.c_p (Lf.p_len (Lf.k_v rfl) Lf.len_l)) fz_d rfl)) (fun hb => ?_) (fun hb => ?_)
  · have hg := ite_t hb hg
    refine ws_assoc ?_
    obtain ⟨y1, hy1, hg⟩ := bnd hg
    obtain ⟨y2, hy2, hg⟩ := bnd hg
    have hv := Option.some.inj hg
    subst hv
    exact ws_ret (Lf.b_i (Lf.c_bV (Lf.ef1 (Lf.c_k (Lf.k_i (Lf.k_v rfl) (Lf.p_k (Lf.k_v rfl)) (Lf.atI_map hy1))) fz_d Lf.ef0) rfl) (Lf.c_v rfl) hy2) ⟨rfl, rfl⟩
  · have hg := ite_f hb hg
    refine ws_skip ?_
    obtain ⟨y3, hy3, hg⟩ := bnd hg
    obtain ⟨y4, hy4, hg⟩ := bnd hg
    refine ws (e1 := [some (.d (.lst (row.map eI))), some (.d (.int at_)), some (.d (.int limit)), some (.d (.int ((((y4 * (40692 : Int)) + (at_ * (7919 : Int))) + (3 : Int)) % (2147483399 : Int))))]) (Lf.s_asg (Lf.b_i (Lf.c_bV (Lf.ef1 (Lf.b_i (Lf.b_i (Lf.b_i (Lf.c_ixv rfl (Lf.b_i (Lf.c_bV (Lf.ef1 (Lf.c_v rfl) fz_d Lf.ef0) rfl) (Lf.c_p (Lf.p_len (Lf.k_v rfl) Lf.len_l)) hy3) rfl (Lf.atI_map hy4)) (Lf.c_p rfl) (Lf.mul_r (by decide))) (Lf.b_i (Lf.c_v rfl) (Lf.c_p rfl) (Lf.mul_r (by decide))) rfl) (Lf.c_p rfl) rfl) fz_d Lf.ef0) rfl) (Lf.c_p rfl) (Lf.mod_r (by decide))) rfl) ?_
    obtain ⟨y5, hy5, hg⟩ := bnd hg
    have hv := Option.some.inj hg
    subst hv
    exact ws_ret (Lf.b_i (Lf.c_bV (Lf.ef1 (Lf.b_i (Lf.c_bV (Lf.ef1 (Lf.b_i (Lf.b_i (Lf.c_v rfl) (Lf.c_p rfl) (Lf.mul_r (by decide))) (Lf.c_v rfl) rfl) fz_d Lf.ef0) rfl) (Lf.c_p rfl) (Lf.mod_r (by decide))) fz_d Lf.ef0) rfl) (Lf.c_v rfl) hy5) ⟨rfl, rfl⟩
def g__law_take (row : List Int) (spot : List Int) (limit : Int) : Option (Int × (List Int)) :=
  (ixO spot (0 : Int)).bind fun y1 =>
  (setO spot (0 : Int) (y1 + (1 : Int))).bind fun y2 =>
  (ixO y2 (0 : Int)).bind fun y3 =>
  (g__law_draw row (y3 - (1 : Int)) limit).bind fun y4 =>
  some (y4, y2)
theorem l__law_take {row : List Int} {spot : List Int} {limit : Int} {vv : (Int × (List Int))} (kk : Nat) (hg : g__law_take row spot limit = some vv) : rn tb (kk + 3) ("_law_take", none) [.d (.lst (row.map eI)), .lst (spot.map (mD eI)), .d (.int limit)] = some (.d (.int vv.1), [.lst (vv.2.map (mD eI))]) := by
  unfold g__law_take at hg
  rw [r__law_take]
  refine runW (v := vv) (Rt := (fun (vv : (Int × (List Int))) (m : M) (e : Ev.Env) => m = .d (.int vv.1) ∧ takeO [1] e = some [.lst (vv.2.map (mD eI))])) rfl ?_ (fun m e h => h)
  show WS _ (b__law_take _ _ [some (.d (.lst (row.map eI))), some (.lst (spot.map (mD eI))), some (.d (.int limit))])
  obtain ⟨y1, hy1, hg⟩ := bnd hg
  obtain ⟨y2, hy2, hg⟩ := bnd hg
  refine ws (e1 := [some (.d (.lst (row.map eI))), some (.lst (y2.map (mD eI))), some (.d (.int limit))]) (Lf.s_idx (mf := (mD eI)) (v := (y1 + (1 : Int))) (Lf.b_i (Lf.c_k (Lf.k_io (Lf.k_ol rfl) (Lf.at0 rfl) rfl (Lf.atI_map hy1))) (Lf.c_p rfl) rfl) (Lf.k_ol rfl) rfl (Lf.at0 rfl) hy2 rfl) ?_
  obtain ⟨y3, hy3, hg⟩ := bnd hg
  obtain ⟨y4, hy4, hg⟩ := bnd hg
  have hv := Option.some.inj hg
  subst hv
  exact ws_ret (Lf.c_call (Lf.a1 (Lf.a_v (Lf.c_v rfl)) (Lf.a1 (Lf.a_v (Lf.b_i (Lf.c_k (Lf.k_io (Lf.k_ol rfl) (Lf.at0 rfl) rfl (Lf.atI_map hy3))) (Lf.c_p rfl) rfl)) (Lf.a1 (Lf.a_v (Lf.c_v rfl)) Lf.a0))) rfl (l__law_draw kk hy4) rfl) ⟨rfl, rfl⟩
def g__law_pick_li_wi_li (row : List Int) (spot : List Int) (things : List Int) : Option (Int × (List Int)) :=
  (g__law_take row spot (things.length : Int)).bind fun y1 =>
  (ixO things y1.1).bind fun y2 =>
  some (y2, y1.2)
theorem l__law_pick_li_wi_li {row : List Int} {spot : List Int} {things : List Int} {vv : (Int × (List Int))} (kk : Nat) (hg : g__law_pick_li_wi_li row spot things = some vv) : rn tb (kk + 4) ("_law_pick", none) [.d (.lst (row.map eI)), .lst (spot.map (mD eI)), .d (.lst (things.map eI))] = some (.d (.int vv.1), [.lst (vv.2.map (mD eI))]) := by
  unfold g__law_pick_li_wi_li at hg
  rw [r__law_pick]
  refine runW (v := vv) (Rt := (fun (vv : (Int × (List Int))) (m : M) (e : Ev.Env) => m = .d (.int vv.1) ∧ takeO [1] e = some [.lst (vv.2.map (mD eI))])) rfl ?_ (fun m e h => h)
  show WS _ (b__law_pick _ _ [some (.d (.lst (row.map eI))), some (.lst (spot.map (mD eI))), some (.d (.lst (things.map eI)))])
  obtain ⟨y1, hy1, hg⟩ := bnd hg
  obtain ⟨y2, hy2, hg⟩ := bnd hg
  have hv := Option.some.inj hg
  subst hv
  exact ws_ret (Lf.c_ixv rfl (Lf.c_call (Lf.a1 (Lf.a_v (Lf.c_v rfl)) (Lf.a1 (Lf.a_ll rfl) (Lf.a1 (Lf.a_v (Lf.c_p (Lf.p_len (Lf.k_v rfl) Lf.len_l))) Lf.a0))) rfl (l__law_take kk hy1) rfl) rfl (Lf.atI_map hy2)) ⟨rfl, rfl⟩
def g__law_figure_li_wi (row : List Int) (spot : List Int) (many : Int) : Option ((List Int) × (List Int)) :=
  (rngO 0 many).bind fun y1 =>
  (mapG y1 fun (x2 : Int) => x2).bind fun y3 =>
  (rngO 0 many).bind fun y4 =>
  (foldO (fun (s5 : ((List Int) × (List Int) × (List Int))) (x6 : Int) => (
      (g__law_pick_li_wi_li row s5.1 s5.2.1).bind fun y9 =>
      (pushO s5.2.2 y9.1).bind fun y10 =>
      (filG s5.2.1 (fun (x11 : Int) => (!(decide (x11 = y9.1)))) fun (x11 : Int) => x11).bind fun y12 =>
      some (y9.2, y12, y10) : Option ((List Int) × (List Int) × (List Int)))) y4 (spot, y3, [])).bind fun s13 =>
  some (s13.2.2, s13.1)
theorem l__law_figure_li_wi {row : List Int} {spot : List Int} {many : Int} {vv : ((List Int) × (List Int))} (kk : Nat) (hg : g__law_figure_li_wi row spot many = some vv) : rn tb (kk + 5) ("_law_figure", none) [.d (.lst (row.map eI)), .lst (spot.map (mD eI)), .d (.int many)] = some (.d (.tup (vv.1.map eI)), [.lst (vv.2.map (mD eI))]) := by
  unfold g__law_figure_li_wi at hg
  rw [r__law_figure]
  refine runW (v := vv) (Rt := (fun (vv : ((List Int) × (List Int))) (m : M) (e : Ev.Env) => m = .d (.tup (vv.1.map eI)) ∧ takeO [1] e = some [.lst (vv.2.map (mD eI))])) rfl ?_ (fun m e h => h)
  show WS _ (b__law_figure _ _ [some (.d (.lst (row.map eI))), some (.lst (spot.map (mD eI))), some (.d (.int many)), none, none, none, none, none])
  obtain ⟨y1, hy1, hg⟩ := bnd hg
  obtain ⟨y3, hy3, hg⟩ := bnd hg
  refine ws (e1 := [some (.d (.lst (row.map eI))), some (.lst (spot.map (mD eI))), some (.d (.int many)), some (.lst (y3.map (mD eI))), none, none, none, none]) (Lf.s_asg (Lf.d_mapG (enc := eI) (xs := y1) (e2 := [some (.d (.lst (row.map eI))), some (.lst (spot.map (mD eI))), some (.d (.int many)), none, none, none, none, none]) (mD eI) hy3 (Lf.i_r1 (Lf.ef1 (Lf.c_v rfl) fz_d Lf.ef0) hy1) rfl (by simp) rfl (fun x2 => ⟨_, _, (Lf.g_n rfl), (Lf.c_v rfl), rfl⟩) rfl) rfl) ?_
  refine ws (e1 := [some (.d (.lst (row.map eI))), some (.lst (spot.map (mD eI))), some (.d (.int many)), some (.lst (y3.map (mD eI))), none, some (.lst (([] : List Int).map (mD eI))), none, none]) (Lf.s_asg (Lf.c_lst Lf.em0 (Nat.le_of_ble_eq_true rfl)) rfl) ?_
  obtain ⟨y4, hy4, hg⟩ := bnd hg
  obtain ⟨s13, hs13, hg⟩ := bnd hg
  refine Lf.ws_forF (enc := eI) (xs := y4) (fun (ss : ((List Int) × (List Int) × (List Int))) ee => ∃ f7_ f8_, Lf.Fl0 f7_ ∧ Lf.Fl0 f8_ ∧ ee = [some (.d (.lst (row.map eI))), some (.lst (ss.1.map (mD eI))), some (.d (.int many)), some (.lst (ss.2.1.map (mD eI))), f7_, some (.lst (ss.2.2.map (mD eI))), f8_, none]) (Lf.i_r1 (Lf.ef1 (Lf.c_v rfl) fz_d Lf.ef0) hy4) ⟨_, _, Lf.fl_n, Lf.fl_n, rfl⟩ hs13 ?_ ?_
  · intro s5 x6 ee vv he hg
    obtain ⟨f7_, f8_, hf7_, hf8_, rfl⟩ := he
    refine ⟨_, (Lf.g_n rfl), ?_⟩
    obtain ⟨y9, hy9, hg⟩ := bnd hg
    refine ws (e1 := [some (.d (.lst (row.map eI))), some (.lst (y9.2.map (mD eI))), some (.d (.int many)), some (.d (.lst (s5.2.1.map eI))), some (.d (.int x6)), some (.lst (s5.2.2.map (mD eI))), some (.d (.int y9.1)), none]) (Lf.s_asg (Lf.c_call (Lf.a1 (Lf.a_v (Lf.c_v rfl)) (Lf.a1 (Lf.a_ll rfl) (Lf.a1 (Lf.a_v (Lf.c_w rfl Lf.fz_own rfl)) Lf.a0))) rfl (l__law_pick_li_wi_li kk hy9) rfl) rfl) ?_
    obtain ⟨y10, hy10, hg⟩ := bnd hg
    refine ws (e1 := [some (.d (.lst (row.map eI))), some (.lst (y9.2.map (mD eI))), some (.d (.int many)), some (.d (.lst (s5.2.1.map eI))), some (.d (.int x6)), some (.lst (y10.map (mD eI))), some (.d (.int y9.1)), none]) (Lf.s_app (mf := (mD eI)) (v := y9.1) (xs := s5.2.2) rfl (Lf.c_v rfl) rfl hy10 rfl) ?_
    obtain ⟨y12, hy12, hg⟩ := bnd hg
    refine ws (e1 := [some (.d (.lst (row.map eI))), some (.lst (y9.2.map (mD eI))), some (.d (.int many)), some (.lst (y12.map (mD eI))), some (.d (.int x6)), some (.lst (y10.map (mD eI))), some (.d (.int y9.1)), none]) (Lf.s_asg (Lf.d_filG (enc := eI) (xs := s5.2.1) (e2 := [some (.d (.lst (row.map eI))), some (.lst (y9.2.map (mD eI))), some (.d (.int many)), some (.d (.lst (s5.2.1.map eI))), some (.d (.int x6)), some (.lst (y10.map (mD eI))), some (.d (.int y9.1)), none]) (mD eI) hy12 (Lf.i_v (Lf.c_v rfl) fz_d rfl) rfl (by simp) rfl (fun x11 => ⟨_, _, _, (Lf.g_n rfl), (Lf.t_b (Lf.c_cmp (Lf.c_v rfl) fz_d (Lf.c_v rfl) fz_d (Lf.ne_e Lf.peI (by decide) x11 y9.1))), rfl, fun hb => ⟨(Lf.c_v rfl), rfl⟩⟩) rfl) rfl) ?_
    have hv := Option.some.inj hg
    subst hv
    exact ws_end ⟨_, _, Lf.fl_d, Lf.fl_d, rfl⟩
  intro ee he
  obtain ⟨f7_, f8_, hf7_, hf8_, rfl⟩ := he
  have hv := Option.some.inj hg
  subst hv
  exact ws_ret (Lf.c_bK (Lf.k_ol rfl) (Lf.read_o (Lf.at0 rfl)) (Lf.f_tup rfl)) ⟨rfl, rfl⟩
def g__law_sets (names : List Int) : Option (List (List Int)) :=
  (foldO (fun (s1 : (List (List Int))) (x2 : Int) => (
      (mapO s1 fun (x5 : List Int) => ((catO (x5 : List Int) [x2]).bind fun y6 => some y6 : Option (List Int))).bind fun y7 =>
      (catO (s1 : List (List Int)) y7).bind fun y8 =>
      some y8 : Option (List (List Int)))) names [[]]).bind fun s9 =>
  some s9
theorem l__law_sets {names : List Int} {vv : (List (List Int))} (kk : Nat) (hg : g__law_sets names = some vv) : ∃ w, Lf.FzE (.lst (vv.map (eL eI))) w ∧ rn tb (kk + 2) ("_law_sets", none) [.lst (names.map (mD eI))] = some (w, []) := by
  unfold g__law_sets at hg
  rw [r__law_sets]
  refine runWF (v := vv) (Rt := (fun (vv : (List (List Int))) (m : M) (e : Ev.Env) => Lf.FzE (.lst (vv.map (eL eI))) m ∧ takeO [] e = some [])) rfl ?_ (fun m e h => h)
  show WS _ (b__law_sets _ _ [some (.lst (names.map (mD eI))), none, none, none])
  refine ws (e1 := [some (.lst (names.map (mD eI))), some (.lst ([[]].map (mL (mD eI)))), none, none]) (Lf.s_asg (Lf.c_lst (Lf.em1 (Lf.c_lst Lf.em0 (Nat.le_of_ble_eq_true rfl)) Lf.em0) (Nat.le_of_ble_eq_true rfl)) rfl) ?_
  obtain ⟨s9, hs9, hg⟩ := bnd hg
  refine Lf.ws_forF (enc := eI) (xs := names) (fun (ss : (List (List Int))) ee => ∃ f3_ w4_, Lf.Fl0 f3_ ∧ w4_.fz = .lst (ss.map (eL eI)) ∧ ee = [some (.d (.lst (names.map eI))), some (w4_), f3_, none]) (Lf.i_v (Lf.c_w rfl Lf.fz_own rfl) fz_d rfl) ⟨_, _, Lf.fl_n, (fz_L fun _ => Lf.fz_own), rfl⟩ hs9 ?_ ?_
  · intro s1 x2 ee vv he hg
    obtain ⟨f3_, w4_, hf3_, hw4_, rfl⟩ := he
    refine ⟨_, (Lf.g_n rfl), ?_⟩
    obtain ⟨y7, hy7, hg⟩ := bnd hg
    obtain ⟨y8, hy8, hg⟩ := bnd hg
    refine ws (e1 := [some (.d (.lst (names.map eI))), some (.lst (y8.map (mD (eL eI)))), some (.d (.int x2)), none]) (Lf.s_asg (Lf.b_x (Lf.c_w rfl hw4_ rfl) fz_d (Lf.d_mapO (enc := (eL eI)) (xs := s1) (e2 := [some (.d (.lst (names.map eI))), some (.d (.lst (s1.map (eL eI)))), some (.d (.int x2)), none]) (mL (mD eI)) hy7 (Lf.i_v (Lf.c_v rfl) fz_d rfl) rfl (by simp) rfl (fun x5 vv hg => by obtain ⟨y6, hy6, hg⟩ := bnd hg; have hv := Option.some.inj hg; subst hv; exact ⟨_, _, (Lf.g_n rfl), (Lf.b_x (Lf.c_v rfl) fz_d (Lf.c_lst (Lf.em1 (Lf.c_v rfl) Lf.em0) (Nat.le_of_ble_eq_true rfl)) (fz_l (fzs1 fz_d fzs0)) (Lf.v_catL (f := eI) (xs := x5) (ys := [x2]) hy6)), rfl⟩) rfl) (fz_L fun _ => Lf.fz_own) (Lf.v_catL (f := (eL eI)) (xs := s1) (ys := y7) hy8)) rfl) ?_
    have hv := Option.some.inj hg
    subst hv
    exact ws_end ⟨_, _, Lf.fl_d, Lf.fz_own, rfl⟩
  intro ee he
  obtain ⟨f3_, w4_, hf3_, hw4_, rfl⟩ := he
  have hv := Option.some.inj hg
  subst hv
  exact ws_retV rfl rfl ⟨hw4_, rfl⟩
def g_is_integer (value : Int) : Option Bool :=
  some true
theorem l_is_integer {value : Int} {vv : Bool} (kk : Nat) (hg : g_is_integer value = some vv) : rn tb (kk + 2) ("is_integer", none) [.d (.int value)] = some (.d (.bl vv), []) := by
  unfold g_is_integer at hg
  rw [r_is_integer]
  refine runW (v := vv) (Rt := (fun (vv : Bool) (m : M) (e : Ev.Env) => m = .d (.bl vv) ∧ takeO [] e = some [])) rfl ?_ (fun m e h => h)
  show WS _ (b_is_integer _ _ [some (.d (.int value))])
  have hv := Option.some.inj hg
  subst hv
  exact ws_ret (Lf.c_andz (z := true) (Lf.c_bV (Lf.ef1 (Lf.c_v rfl) fz_d Lf.ef0) (show one (isTs ["int"]) [.int value] = some (.d (.bl true)) by simp [isTs, tyD, known, isB])) (fun _ => (Lf.c_not (Lf.c_bV (Lf.ef1 (Lf.c_v rfl) fz_d Lf.ef0) (show one (isTs ["bool"]) [.int value] = some (.d (.bl false)) by simp [isTs, tyD, known, isB])))) (fun hb => by cases hb)) ⟨rfl, rfl⟩
def g_is_within (value : Int) (low : Int) (high : Int) : Option Bool :=
  (g_is_integer value).bind fun y1 =>
  if (!y1) then
    some false
  else
    if (decide (value < low)) then
      some false
    else
      some (decide (value ≤ high))
theorem l_is_within {value : Int} {low : Int} {high : Int} {vv : Bool} (kk : Nat) (hg : g_is_within value low high = some vv) : rn tb (kk + 3) ("is_within", none) [.d (.int value), .d (.int low), .d (.int high)] = some (.d (.bl vv), []) := by
  unfold g_is_within at hg
  rw [r_is_within]
  refine runW (v := vv) (Rt := (fun (vv : Bool) (m : M) (e : Ev.Env) => m = .d (.bl vv) ∧ takeO [] e = some [])) rfl ?_ (fun m e h => h)
  show WS _ (b_is_within _ _ [some (.d (.int value)), some (.d (.int low)), some (.d (.int high))])
  obtain ⟨y1, hy1, hg⟩ := bnd hg
  refine ws_if (Lf.t_not (Lf.t_v (Lf.c_call (Lf.a1 (Lf.a_v (Lf.c_v rfl)) Lf.a0) rfl (l_is_integer kk hy1) rfl) fz_d rfl)) (fun hb => ?_) (fun hb => ?_)
  · have hg := ite_t hb hg
    refine ws_assoc ?_
    have hv := Option.some.inj hg
    subst hv
    exact ws_ret (Lf.c_p rfl) ⟨rfl, rfl⟩
  · have hg := ite_f hb hg
    refine ws_skip ?_
    refine ws_if (Lf.t_andz (z := (decide (value < low))) (Lf.t_b (Lf.c_cmp (Lf.c_v rfl) fz_d (Lf.c_p rfl) fz_d rfl)) (fun _ => (Lf.t_b (Lf.c_cmp (Lf.c_v rfl) fz_d (Lf.c_v rfl) fz_d rfl))) (fun hb => by cases hb)) (fun hb => ?_) (fun hb => ?_)
    · have hg := ite_t hb hg
      refine ws_assoc ?_
      have hv := Option.some.inj hg
      subst hv
      exact ws_ret (Lf.c_p rfl) ⟨rfl, rfl⟩
    · have hg := ite_f hb hg
      refine ws_skip ?_
      have hv := Option.some.inj hg
      subst hv
      exact ws_ret (Lf.c_orz (z := (decide (value ≤ high))) (Lf.c_cmp (Lf.c_v rfl) fz_d (Lf.c_p rfl) fz_d rfl) (fun _ => (Lf.c_cmp (Lf.c_v rfl) fz_d (Lf.c_v rfl) fz_d rfl)) (fun hb => by cases hb)) ⟨rfl, rfl⟩
def g_need_integer (value : Int) (low : Int) (high : Int) (at_ : Int) : Option Int :=
  (g_is_within value low high).bind fun y1 =>
  if (!y1) then
    none
  else
    some value
theorem l_need_integer {value : Int} {low : Int} {high : Int} {at_ : Int} {vv : Int} (kk : Nat) (hg : g_need_integer value low high at_ = some vv) : rn tb (kk + 4) ("need_integer", none) [.d (.int value), .d (.int low), .d (.int high), .d (.int at_)] = some (.d (.int vv), []) := by
  unfold g_need_integer at hg
  rw [r_need_integer]
  refine runW (v := vv) (Rt := (fun (vv : Int) (m : M) (e : Ev.Env) => m = .d (.int vv) ∧ takeO [] e = some [])) rfl ?_ (fun m e h => h)
  show WS _ (b_need_integer _ _ [some (.d (.int value)), some (.d (.int low)), some (.d (.int high)), some (.d (.int at_))])
  obtain ⟨y1, hy1, hg⟩ := bnd hg
  refine ws_if (Lf.t_not (Lf.t_v (Lf.c_call (Lf.a1 (Lf.a_v (Lf.c_v rfl)) (Lf.a1 (Lf.a_v (Lf.c_v rfl)) (Lf.a1 (Lf.a_v (Lf.c_v rfl)) Lf.a0))) rfl (l_is_within kk hy1) rfl) fz_d rfl)) (fun hb => ?_) (fun hb => ?_)
  · have hg := ite_t hb hg
    refine ws_assoc ?_
    cases hg
  · have hg := ite_f hb hg
    refine ws_skip ?_
    have hv := Option.some.inj hg
    subst hv
    exact ws_retV rfl rfl ⟨rfl, rfl⟩
def g_check_slips (slips : Int) (at_ : Int) : Option Int :=
  (g_need_integer slips (1 : Int) (200 : Int) at_).bind fun y1 =>
  some y1
theorem l_check_slips {slips : Int} {at_ : Int} {vv : Int} (kk : Nat) (hg : g_check_slips slips at_ = some vv) : rn tb (kk + 5) ("check_slips", none) [.d (.int slips), .d (.int at_)] = some (.d (.int vv), []) := by
  unfold g_check_slips at hg
  rw [r_check_slips]
  refine runW (v := vv) (Rt := (fun (vv : Int) (m : M) (e : Ev.Env) => m = .d (.int vv) ∧ takeO [] e = some [])) rfl ?_ (fun m e h => h)
  show WS _ (b_check_slips _ _ [some (.d (.int slips)), some (.d (.int at_))])
  obtain ⟨y1, hy1, hg⟩ := bnd hg
  have hv := Option.some.inj hg
  subst hv
  exact ws_ret (Lf.c_call (Lf.a1 (Lf.a_v (Lf.c_v rfl)) (Lf.a1 (Lf.a_v (Lf.c_p rfl)) (Lf.a1 (Lf.a_v (Lf.c_k rfl)) (Lf.a1 (Lf.a_v (Lf.c_v rfl)) Lf.a0)))) rfl (l_need_integer kk hy1) rfl) ⟨rfl, rfl⟩
def g_is_within_n (value : Int) (low : Int) (high : Unit) : Option Bool :=
  (g_is_integer value).bind fun y1 =>
  if (!y1) then
    some false
  else
    if (decide (value < low)) then
      some false
    else
      some true
theorem l_is_within_n {value : Int} {low : Int} {high : Unit} {vv : Bool} (kk : Nat) (hg : g_is_within_n value low high = some vv) : rn tb (kk + 3) ("is_within", none) [.d (.int value), .d (.int low), .d (.non)] = some (.d (.bl vv), []) := by
  unfold g_is_within_n at hg
  rw [r_is_within]
  refine runW (v := vv) (Rt := (fun (vv : Bool) (m : M) (e : Ev.Env) => m = .d (.bl vv) ∧ takeO [] e = some [])) rfl ?_ (fun m e h => h)
  show WS _ (b_is_within _ _ [some (.d (.int value)), some (.d (.int low)), some (.d (.non))])
  obtain ⟨y1, hy1, hg⟩ := bnd hg
  refine ws_if (Lf.t_not (Lf.t_v (Lf.c_call (Lf.a1 (Lf.a_v (Lf.c_v rfl)) Lf.a0) rfl (l_is_integer kk hy1) rfl) fz_d rfl)) (fun hb => ?_) (fun hb => ?_)
  · have hg := ite_t hb hg
    refine ws_assoc ?_
    have hv := Option.some.inj hg
    subst hv
    exact ws_ret (Lf.c_p rfl) ⟨rfl, rfl⟩
  · have hg := ite_f hb hg
    refine ws_skip ?_
    refine ws_if (Lf.t_andz (z := (decide (value < low))) (Lf.t_b (Lf.c_cmp (Lf.c_v rfl) fz_d (Lf.c_p rfl) fz_d rfl)) (fun _ => (Lf.t_b (Lf.c_cmp (Lf.c_v rfl) fz_d (Lf.c_v rfl) fz_d rfl))) (fun hb => by cases hb)) (fun hb => ?_) (fun hb => ?_)
    · have hg := ite_t hb hg
      refine ws_assoc ?_
      have hv := Option.some.inj hg
      subst hv
      exact ws_ret (Lf.c_p rfl) ⟨rfl, rfl⟩
    · have hg := ite_f hb hg
      refine ws_skip ?_
      have hv := Option.some.inj hg
      subst hv
      exact ws_ret (Lf.c_orz (z := true) (Lf.c_cmp (Lf.c_v rfl) fz_d (Lf.c_p rfl) fz_d rfl) (fun hb => by cases hb) (fun _ => rfl)) ⟨rfl, rfl⟩
def g_need_integer_n (value : Int) (low : Int) (high : Unit) (at_ : Int) : Option Int :=
  (g_is_within_n value low high).bind fun y1 =>
  if (!y1) then
    none
  else
    some value
theorem l_need_integer_n {value : Int} {low : Int} {high : Unit} {at_ : Int} {vv : Int} (kk : Nat) (hg : g_need_integer_n value low high at_ = some vv) : rn tb (kk + 4) ("need_integer", none) [.d (.int value), .d (.int low), .d (.non), .d (.int at_)] = some (.d (.int vv), []) := by
  unfold g_need_integer_n at hg
  rw [r_need_integer]
  refine runW (v := vv) (Rt := (fun (vv : Int) (m : M) (e : Ev.Env) => m = .d (.int vv) ∧ takeO [] e = some [])) rfl ?_ (fun m e h => h)
  show WS _ (b_need_integer _ _ [some (.d (.int value)), some (.d (.int low)), some (.d (.non)), some (.d (.int at_))])
  obtain ⟨y1, hy1, hg⟩ := bnd hg
  refine ws_if (Lf.t_not (Lf.t_v (Lf.c_call (Lf.a1 (Lf.a_v (Lf.c_v rfl)) (Lf.a1 (Lf.a_v (Lf.c_v rfl)) (Lf.a1 (Lf.a_v (Lf.c_v rfl)) Lf.a0))) rfl (l_is_within_n kk hy1) rfl) fz_d rfl)) (fun hb => ?_) (fun hb => ?_)
  · have hg := ite_t hb hg
    refine ws_assoc ?_
    cases hg
  · have hg := ite_f hb hg
    refine ws_skip ?_
    have hv := Option.some.inj hg
    subst hv
    exact ws_retV rfl rfl ⟨rfl, rfl⟩
def g_check_part (part : Int) (at_ : Int) : Option Int :=
  (g_need_integer_n part (0 : Int) () at_).bind fun y1 =>
  some y1
theorem l_check_part {part : Int} {at_ : Int} {vv : Int} (kk : Nat) (hg : g_check_part part at_ = some vv) : rn tb (kk + 5) ("check_part", none) [.d (.int part), .d (.int at_)] = some (.d (.int vv), []) := by
  unfold g_check_part at hg
  rw [r_check_part]
  refine runW (v := vv) (Rt := (fun (vv : Int) (m : M) (e : Ev.Env) => m = .d (.int vv) ∧ takeO [] e = some [])) rfl ?_ (fun m e h => h)
  show WS _ (b_check_part _ _ [some (.d (.int part)), some (.d (.int at_))])
  obtain ⟨y1, hy1, hg⟩ := bnd hg
  have hv := Option.some.inj hg
  subst hv
  exact ws_ret (Lf.c_call (Lf.a1 (Lf.a_v (Lf.c_v rfl)) (Lf.a1 (Lf.a_v (Lf.c_p rfl)) (Lf.a1 (Lf.a_v (Lf.c_p rfl)) (Lf.a1 (Lf.a_v (Lf.c_v rfl)) Lf.a0)))) rfl (l_need_integer_n kk hy1) rfl) ⟨rfl, rfl⟩
def g_need (holds : Bool) (at_ : Int) : Option Unit :=
  if (!holds) then
    none
  else
    some ()
theorem l_need {holds : Bool} {at_ : Int} {vv : Unit} (kk : Nat) (hg : g_need holds at_ = some vv) : rn tb (kk + 2) ("need", none) [.d (.bl holds), .d (.int at_)] = some (.d (.non), []) := by
  unfold g_need at hg
  rw [r_need]
  refine runW (v := vv) (Rt := (fun (vv : Unit) (m : M) (e : Ev.Env) => m = .d (.non) ∧ takeO [] e = some [])) rfl ?_ (fun m e h => h)
  show WS _ (b_need _ _ [some (.d (.bl holds)), some (.d (.int at_))])
  refine ws_if (Lf.t_not (Lf.t_k (Lf.k_v rfl) rfl rfl)) (fun hb => ?_) (fun hb => ?_)
  · have hg := ite_t hb hg
    refine ws_assoc ?_
    cases hg
  · have hg := ite_f hb hg
    refine ws_skip ?_
    have hv := Option.some.inj hg
    subst hv
    exact ws_end ⟨rfl, rfl⟩
def g_meet_part (slips : Int) (part : Int) (at_ : Int) : Option Unit :=
  (g_need (decide (part ≤ slips)) at_).bind fun y1 =>
  some ()
theorem l_meet_part {slips : Int} {part : Int} {at_ : Int} {vv : Unit} (kk : Nat) (hg : g_meet_part slips part at_ = some vv) : rn tb (kk + 3) ("meet_part", none) [.d (.int slips), .d (.int part), .d (.int at_)] = some (.d (.non), []) := by
  unfold g_meet_part at hg
  rw [r_meet_part]
  refine runW (v := vv) (Rt := (fun (vv : Unit) (m : M) (e : Ev.Env) => m = .d (.non) ∧ takeO [] e = some [])) rfl ?_ (fun m e h => h)
  show WS _ (b_meet_part _ _ [some (.d (.int slips)), some (.d (.int part)), some (.d (.int at_))])
  obtain ⟨y1, hy1, hg⟩ := bnd hg
  refine ws (e1 := [some (.d (.int slips)), some (.d (.int part)), some (.d (.int at_))]) (Lf.s_drop (Lf.c_call (Lf.a1 (Lf.a_v (Lf.c_cmp (Lf.c_v rfl) fz_d (Lf.c_v rfl) fz_d rfl)) (Lf.a1 (Lf.a_v (Lf.c_v rfl)) Lf.a0)) rfl (l_need kk hy1) rfl)) ?_
  have hv := Option.some.inj hg
  subst hv
  exact ws_end ⟨rfl, rfl⟩
def g_check_draw (slips : Int) (wrong : Int) (looked : Int) : Option Unit :=
  (g_check_slips slips (0 : Int)).bind fun y1 =>
  (g_check_part wrong (1 : Int)).bind fun y2 =>
  (g_check_part looked (2 : Int)).bind fun y3 =>
  (g_meet_part slips wrong (1 : Int)).bind fun y4 =>
  (g_meet_part slips looked (2 : Int)).bind fun y5 =>
  some ()
theorem l_check_draw {slips : Int} {wrong : Int} {looked : Int} {vv : Unit} (kk : Nat) (hg : g_check_draw slips wrong looked = some vv) : rn tb (kk + 6) ("check_draw", none) [.d (.int slips), .d (.int wrong), .d (.int looked)] = some (.d (.non), []) := by
  unfold g_check_draw at hg
  rw [r_check_draw]
  refine runW (v := vv) (Rt := (fun (vv : Unit) (m : M) (e : Ev.Env) => m = .d (.non) ∧ takeO [] e = some [])) rfl ?_ (fun m e h => h)
  show WS _ (b_check_draw _ _ [some (.d (.int slips)), some (.d (.int wrong)), some (.d (.int looked))])
  obtain ⟨y1, hy1, hg⟩ := bnd hg
  refine ws (e1 := [some (.d (.int slips)), some (.d (.int wrong)), some (.d (.int looked))]) (Lf.s_drop (Lf.c_call (Lf.a1 (Lf.a_v (Lf.c_v rfl)) (Lf.a1 (Lf.a_v (Lf.c_p rfl)) Lf.a0)) rfl (l_check_slips kk hy1) rfl)) ?_
  obtain ⟨y2, hy2, hg⟩ := bnd hg
  refine ws (e1 := [some (.d (.int slips)), some (.d (.int wrong)), some (.d (.int looked))]) (Lf.s_drop (Lf.c_call (Lf.a1 (Lf.a_v (Lf.c_v rfl)) (Lf.a1 (Lf.a_v (Lf.c_p rfl)) Lf.a0)) rfl (l_check_part kk hy2) rfl)) ?_
  obtain ⟨y3, hy3, hg⟩ := bnd hg
  refine ws (e1 := [some (.d (.int slips)), some (.d (.int wrong)), some (.d (.int looked))]) (Lf.s_drop (Lf.c_call (Lf.a1 (Lf.a_v (Lf.c_v rfl)) (Lf.a1 (Lf.a_v (Lf.c_p rfl)) Lf.a0)) rfl (l_check_part kk hy3) rfl)) ?_
  obtain ⟨y4, hy4, hg⟩ := bnd hg
  refine ws (e1 := [some (.d (.int slips)), some (.d (.int wrong)), some (.d (.int looked))]) (Lf.s_drop (Lf.c_call (Lf.a1 (Lf.a_v (Lf.c_v rfl)) (Lf.a1 (Lf.a_v (Lf.c_v rfl)) (Lf.a1 (Lf.a_v (Lf.c_p rfl)) Lf.a0))) rfl (l_meet_part (kk + 2) hy4) rfl)) ?_
  obtain ⟨y5, hy5, hg⟩ := bnd hg
  refine ws (e1 := [some (.d (.int slips)), some (.d (.int wrong)), some (.d (.int looked))]) (Lf.s_drop (Lf.c_call (Lf.a1 (Lf.a_v (Lf.c_v rfl)) (Lf.a1 (Lf.a_v (Lf.c_v rfl)) (Lf.a1 (Lf.a_v (Lf.c_p rfl)) Lf.a0))) rfl (l_meet_part (kk + 2) hy5) rfl)) ?_
  have hv := Option.some.inj hg
  subst hv
  exact ws_end ⟨rfl, rfl⟩
def g_missed (slips : Int) (wrong : Int) (looked : Int) : Option (Int × Int) :=
  (rngO 0 looked).bind fun y1 =>
  (foldO (fun (s2 : (Int × Int)) (x3 : Int) => (
      (binI .Mult s2.1 (max (0 : Int) ((slips - wrong) - x3))).bind fun y5 =>
      (binI .Mult s2.2 (slips - x3)).bind fun y6 =>
      some (y5, y6) : Option (Int × Int))) y1 ((1 : Int), (1 : Int))).bind fun s7 =>
  some (s7.1, s7.2)
theorem l_missed {slips : Int} {wrong : Int} {looked : Int} {vv : (Int × Int)} (kk : Nat) (hg : g_missed slips wrong looked = some vv) : rn tb (kk + 2) ("missed", none) [.d (.int slips), .d (.int wrong), .d (.int looked)] = some (.d (.tup [.int vv.1, .int vv.2]), []) := by
  unfold g_missed at hg
  rw [r_missed]
  refine runW (v := vv) (Rt := (fun (vv : (Int × Int)) (m : M) (e : Ev.Env) => m = .d (.tup [.int vv.1, .int vv.2]) ∧ takeO [] e = some [])) rfl ?_ (fun m e h => h)
  show WS _ (b_missed _ _ [some (.d (.int slips)), some (.d (.int wrong)), some (.d (.int looked)), none, none, none])
  refine ws (e1 := [some (.d (.int slips)), some (.d (.int wrong)), some (.d (.int looked)), some (.d (.int (1 : Int))), none, none]) (Lf.s_asg (Lf.c_p rfl) rfl) ?_
  refine ws (e1 := [some (.d (.int slips)), some (.d (.int wrong)), some (.d (.int looked)), some (.d (.int (1 : Int))), some (.d (.int (1 : Int))), none]) (Lf.s_asg (Lf.c_p rfl) rfl) ?_
  obtain ⟨y1, hy1, hg⟩ := bnd hg
  obtain ⟨s7, hs7, hg⟩ := bnd hg
  refine Lf.ws_forF (enc := eI) (xs := y1) (fun (ss : (Int × Int)) ee => ∃ f4_, Lf.Fl0 f4_ ∧ ee = [some (.d (.int slips)), some (.d (.int wrong)), some (.d (.int looked)), some (.d (.int ss.1)), some (.d (.int ss.2)), f4_]) (Lf.i_r1 (Lf.ef1 (Lf.c_v rfl) fz_d Lf.ef0) hy1) ⟨_, Lf.fl_n, rfl⟩ hs7 ?_ ?_
  · intro s2 x3 ee vv he hg
    obtain ⟨f4_, hf4_, rfl⟩ := he
    refine ⟨_, (Lf.g_n rfl), ?_⟩
    obtain ⟨y5, hy5, hg⟩ := bnd hg
    refine ws (e1 := [some (.d (.int slips)), some (.d (.int wrong)), some (.d (.int looked)), some (.d (.int y5)), some (.d (.int s2.2)), some (.d (.int x3))]) (Lf.s_asg (Lf.b_i (Lf.c_v rfl) (Lf.c_bV (Lf.ef1 (Lf.c_p rfl) fz_d (Lf.ef1 (Lf.b_i (Lf.b_i (Lf.c_v rfl) (Lf.c_v rfl) rfl) (Lf.c_v rfl) rfl) fz_d Lf.ef0)) Lf.f_max2) hy5) rfl) ?_
    obtain ⟨y6, hy6, hg⟩ := bnd hg
    refine ws (e1 := [some (.d (.int slips)), some (.d (.int wrong)), some (.d (.int looked)), some (.d (.int y5)), some (.d (.int y6)), some (.d (.int x3))]) (Lf.s_asg (Lf.b_i (Lf.c_v rfl) (Lf.b_i (Lf.c_v rfl) (Lf.c_v rfl) rfl) hy6) rfl) ?_
    have hv := Option.some.inj hg
    subst hv
    exact ws_end ⟨_, Lf.fl_d, rfl⟩
  intro ee he
  obtain ⟨f4_, hf4_, rfl⟩ := he
  have hv := Option.some.inj hg
  subst hv
  exact ws_ret (Lf.c_tup (Lf.ef1 (Lf.c_v rfl) fz_d (Lf.ef1 (Lf.c_v rfl) fz_d Lf.ef0)) (Nat.le_of_ble_eq_true rfl)) ⟨rfl, rfl⟩
def g_fraction (top : Int) (bottom : Int) : Option (Int × Int) :=
  (if (decide (bottom < (0 : Int))) then
      some (-((Nat.gcd top.natAbs bottom.natAbs : Nat) : Int))
    else
      some ((Nat.gcd top.natAbs bottom.natAbs : Nat) : Int) : Option Int).bind fun s1 =>
  (binI .FloorDiv top s1).bind fun y2 =>
  (binI .FloorDiv bottom s1).bind fun y3 =>
  some (y2, y3)
theorem l_fraction {top : Int} {bottom : Int} {vv : (Int × Int)} (kk : Nat) (hg : g_fraction top bottom = some vv) : rn tb (kk + 2) ("fraction", none) [.d (.int top), .d (.int bottom)] = some (.d (.tup [.int vv.1, .int vv.2]), []) := by
  unfold g_fraction at hg
  rw [r_fraction]
  refine runW (v := vv) (Rt := (fun (vv : (Int × Int)) (m : M) (e : Ev.Env) => m = .d (.tup [.int vv.1, .int vv.2]) ∧ takeO [] e = some [])) rfl ?_ (fun m e h => h)
  show WS _ (b_fraction _ _ [some (.d (.int top)), some (.d (.int bottom)), none])
  refine ws (e1 := [some (.d (.int top)), some (.d (.int bottom)), some (.d (.int ((Nat.gcd top.natAbs bottom.natAbs : Nat) : Int)))]) (Lf.s_asg (Lf.c_bV (Lf.ef1 (Lf.c_v rfl) fz_d (Lf.ef1 (Lf.c_v rfl) fz_d Lf.ef0)) rfl) rfl) ?_
  obtain ⟨s1, hs1, hg⟩ := bnd hg
  refine Lf.ws_ifJ (s' := s1) (fun (ss : Int) ee => ee = [some (.d (.int top)), some (.d (.int bottom)), some (.d (.int ss))]) (Lf.t_b (Lf.c_cmp (Lf.c_v rfl) fz_d (Lf.c_p rfl) fz_d rfl)) (fun hb => ?_) (fun hb => ?_) (fun ee he => ?_)
  · have hg := ite_t hb hs1
    refine ws (e1 := [some (.d (.int top)), some (.d (.int bottom)), some (.d (.int (-((Nat.gcd top.natAbs bottom.natAbs : Nat) : Int))))]) (Lf.s_asg (Lf.c_neg (Lf.c_v rfl)) rfl) ?_
    have hv := Option.some.inj hg
    subst hv
    exact ws_end rfl
  · have hg := ite_f hb hs1
    have hv := Option.some.inj hg
    subst hv
    exact ws_end rfl
  subst he
  obtain ⟨y2, hy2, hg⟩ := bnd hg
  obtain ⟨y3, hy3, hg⟩ := bnd hg
  have hv := Option.some.inj hg
  subst hv
  exact ws_ret (Lf.c_tup (Lf.ef1 (Lf.b_i (Lf.c_v rfl) (Lf.c_v rfl) hy2) fz_d (Lf.ef1 (Lf.b_i (Lf.c_v rfl) (Lf.c_v rfl) hy3) fz_d Lf.ef0)) (Nat.le_of_ble_eq_true rfl)) ⟨rfl, rfl⟩
def g_found_chance (slips : Int) (wrong : Int) (looked : Int) : Option (Int × Int) :=
  (g_missed slips wrong looked).bind fun y1 =>
  (g_fraction (y1.2 - y1.1) y1.2).bind fun y2 =>
  some y2
theorem l_found_chance {slips : Int} {wrong : Int} {looked : Int} {vv : (Int × Int)} (kk : Nat) (hg : g_found_chance slips wrong looked = some vv) : rn tb (kk + 3) ("found_chance", none) [.d (.int slips), .d (.int wrong), .d (.int looked)] = some (.d (.tup [.int vv.1, .int vv.2]), []) := by
  unfold g_found_chance at hg
  rw [r_found_chance]
  refine runW (v := vv) (Rt := (fun (vv : (Int × Int)) (m : M) (e : Ev.Env) => m = .d (.tup [.int vv.1, .int vv.2]) ∧ takeO [] e = some [])) rfl ?_ (fun m e h => h)
  show WS _ (b_found_chance _ _ [some (.d (.int slips)), some (.d (.int wrong)), some (.d (.int looked)), none, none])
  obtain ⟨y1, hy1, hg⟩ := bnd hg
  refine ws (e1 := [some (.d (.int slips)), some (.d (.int wrong)), some (.d (.int looked)), some (.d (.int y1.1)), some (.d (.int y1.2))]) (Lf.s_tgt (Lf.c_call (Lf.a1 (Lf.a_v (Lf.c_v rfl)) (Lf.a1 (Lf.a_v (Lf.c_v rfl)) (Lf.a1 (Lf.a_v (Lf.c_v rfl)) Lf.a0))) rfl (l_missed kk hy1) rfl) fz_d (Lf.g_t (Lf.gs1 (Lf.g_n rfl) (Lf.gs1 (Lf.g_n rfl) Lf.gs0)))) ?_
  obtain ⟨y2, hy2, hg⟩ := bnd hg
  have hv := Option.some.inj hg
  subst hv
  exact ws_ret (Lf.c_call (Lf.a1 (Lf.a_v (Lf.b_i (Lf.c_v rfl) (Lf.c_v rfl) rfl)) (Lf.a1 (Lf.a_v (Lf.c_v rfl)) Lf.a0)) rfl (l_fraction kk hy2) rfl) ⟨rfl, rfl⟩
def g_draws_with (slips : Int) (wrong : Int) (looked : Int) (found : Int) : Option Int :=
  (combO wrong found).bind fun y1 =>
  (combO (slips - wrong) (looked - found)).bind fun y2 =>
  (binI .Mult y1 y2).bind fun y3 =>
  some y3
theorem l_draws_with {slips : Int} {wrong : Int} {looked : Int} {found : Int} {vv : Int} (kk : Nat) (hg : g_draws_with slips wrong looked found = some vv) : rn tb (kk + 2) ("draws_with", none) [.d (.int slips), .d (.int wrong), .d (.int looked), .d (.int found)] = some (.d (.int vv), []) := by
  unfold g_draws_with at hg
  rw [r_draws_with]
  refine runW (v := vv) (Rt := (fun (vv : Int) (m : M) (e : Ev.Env) => m = .d (.int vv) ∧ takeO [] e = some [])) rfl ?_ (fun m e h => h)
  show WS _ (b_draws_with _ _ [some (.d (.int slips)), some (.d (.int wrong)), some (.d (.int looked)), some (.d (.int found))])
  obtain ⟨y1, hy1, hg⟩ := bnd hg
  obtain ⟨y2, hy2, hg⟩ := bnd hg
  obtain ⟨y3, hy3, hg⟩ := bnd hg
  have hv := Option.some.inj hg
  subst hv
  exact ws_ret (Lf.b_i (Lf.c_bV (Lf.ef1 (Lf.c_v rfl) fz_d (Lf.ef1 (Lf.c_v rfl) fz_d Lf.ef0)) (Lf.f_comb hy1)) (Lf.c_bV (Lf.ef1 (Lf.b_i (Lf.c_v rfl) (Lf.c_v rfl) rfl) fz_d (Lf.ef1 (Lf.b_i (Lf.c_v rfl) (Lf.c_v rfl) rfl) fz_d Lf.ef0)) (Lf.f_comb hy2)) hy3) ⟨rfl, rfl⟩
def g_counts (slips : Int) (wrong : Int) (looked : Int) : Option (List Int) :=
  (rngO 0 ((min wrong looked) + (1 : Int))).bind fun y1 =>
  (mapO y1 fun (x2 : Int) => ((g_draws_with slips wrong looked x2).bind fun y3 => some y3 : Option Int)).bind fun y4 =>
  some y4
theorem l_counts {slips : Int} {wrong : Int} {looked : Int} {vv : (List Int)} (kk : Nat) (hg : g_counts slips wrong looked = some vv) : rn tb (kk + 3) ("counts", none) [.d (.int slips), .d (.int wrong), .d (.int looked)] = some (.lst (vv.map (mD eI)), []) := by
  unfold g_counts at hg
  rw [r_counts]
  refine runW (v := vv) (Rt := (fun (vv : (List Int)) (m : M) (e : Ev.Env) => m = .lst (vv.map (mD eI)) ∧ takeO [] e = some [])) rfl ?_ (fun m e h => h)
  show WS _ (b_counts _ _ [some (.d (.int slips)), some (.d (.int wrong)), some (.d (.int looked)), none])
  obtain ⟨y1, hy1, hg⟩ := bnd hg
  obtain ⟨y4, hy4, hg⟩ := bnd hg
  have hv := Option.some.inj hg
  subst hv
  exact ws_ret (Lf.d_mapO (enc := eI) (xs := y1) (e2 := [some (.d (.int slips)), some (.d (.int wrong)), some (.d (.int looked)), none]) (mD eI) hy4 (Lf.i_r1 (Lf.ef1 (Lf.b_i (Lf.c_bV (Lf.ef1 (Lf.c_v rfl) fz_d (Lf.ef1 (Lf.c_v rfl) fz_d Lf.ef0)) Lf.f_min2) (Lf.c_p rfl) rfl) fz_d Lf.ef0) hy1) rfl (by simp) rfl (fun x2 vv hg => by obtain ⟨y3, hy3, hg⟩ := bnd hg; have hv := Option.some.inj hg; subst hv; exact ⟨_, _, (Lf.g_n rfl), (Lf.c_call (Lf.a1 (Lf.a_v (Lf.c_v rfl)) (Lf.a1 (Lf.a_v (Lf.c_v rfl)) (Lf.a1 (Lf.a_v (Lf.c_v rfl)) (Lf.a1 (Lf.a_v (Lf.c_v rfl)) Lf.a0)))) rfl (l_draws_with kk hy3) rfl), rfl⟩) rfl) ⟨rfl, rfl⟩
def g_is_share (chance : (Int × Int)) (part : Int) (whole : Int) : Option Bool :=
  (if (decide ((0 : Int) < chance.2)) then (if (decide (((Nat.gcd chance.1.natAbs chance.2.natAbs : Nat) : Int) = (1 : Int))) then (binI .Mult chance.1 whole).bind fun y1 => (binI .Mult part chance.2).bind fun y2 => some (decide (y1 = y2)) else some false).bind fun y3 => some y3 else some false).bind fun y4 =>
  some y4
theorem l_is_share {chance : (Int × Int)} {part : Int} {whole : Int} {vv : Bool} (kk : Nat) (hg : g_is_share chance part whole = some vv) : rn tb (kk + 2) ("is_share", none) [.d (.tup [.int chance.1, .int chance.2]), .d (.int part), .d (.int whole)] = some (.d (.bl vv), []) := by
  unfold g_is_share at hg
  rw [r_is_share]
  refine runW (v := vv) (Rt := (fun (vv : Bool) (m : M) (e : Ev.Env) => m = .d (.bl vv) ∧ takeO [] e = some [])) rfl ?_ (fun m e h => h)
  show WS _ (b_is_share _ _ [some (.d (.tup [.int chance.1, .int chance.2])), some (.d (.int part)), some (.d (.int whole)), none, none])
  refine ws (e1 := [some (.d (.tup [.int chance.1, .int chance.2])), some (.d (.int part)), some (.d (.int whole)), some (.d (.int chance.1)), some (.d (.int chance.2))]) (Lf.s_tgt (Lf.c_v rfl) fz_d (Lf.g_t (Lf.gs1 (Lf.g_n rfl) (Lf.gs1 (Lf.g_n rfl) Lf.gs0)))) ?_
  obtain ⟨y4, hy4, hg⟩ := bnd hg
  have hv := Option.some.inj hg
  subst hv
  exact ws_ret (Lf.c_andz (z := y4) (Lf.c_cmp (Lf.c_v rfl) fz_d (Lf.c_p rfl) fz_d rfl) (fun hb => by have hg := ite_t hb hy4; obtain ⟨y3, hy3, hg⟩ := bnd hg; exact Lf.c_cvb (Lf.c_andz (z := y3) (Lf.c_cmp (Lf.c_bV (Lf.ef1 (Lf.c_v rfl) fz_d (Lf.ef1 (Lf.c_v rfl) fz_d Lf.ef0)) rfl) fz_d (Lf.c_p rfl) fz_d (Lf.eq_e Lf.peI (by decide) ((Nat.gcd chance.1.natAbs chance.2.natAbs : Nat) : Int) (1 : Int))) (fun hb => by have hg := ite_t hb hy3; obtain ⟨y1, hy1, hg⟩ := bnd hg; obtain ⟨y2, hy2, hg⟩ := bnd hg; exact Lf.c_cvb (Lf.c_cmp (Lf.b_i (Lf.c_v rfl) (Lf.c_v rfl) hy1) fz_d (Lf.b_i (Lf.c_v rfl) (Lf.c_v rfl) hy2) fz_d (Lf.eq_e Lf.peI (by decide) y1 y2)) (Option.some.inj hg)) (fun hb => by have hg := ite_f hb hy3; cases hg; rfl)) (Option.some.inj hg)) (fun hb => by have hg := ite_f hb hy4; cases hg; rfl)) ⟨rfl, rfl⟩
def g_is_chance (slips : Int) (wrong : Int) (looked : Int) (chance : (Int × Int)) : Option Bool :=
  (g_counts slips wrong looked).bind fun y1 =>
  (g_is_share chance ((cut y1 (some (1 : Int)) none).sum) y1.sum).bind fun y2 =>
  some y2
theorem l_is_chance {slips : Int} {wrong : Int} {looked : Int} {chance : (Int × Int)} {vv : Bool} (kk : Nat) (hg : g_is_chance slips wrong looked chance = some vv) : rn tb (kk + 4) ("is_chance", none) [.d (.int slips), .d (.int wrong), .d (.int looked), .d (.tup [.int chance.1, .int chance.2])] = some (.d (.bl vv), []) := by
  unfold g_is_chance at hg
  rw [r_is_chance]
  refine runW (v := vv) (Rt := (fun (vv : Bool) (m : M) (e : Ev.Env) => m = .d (.bl vv) ∧ takeO [] e = some [])) rfl ?_ (fun m e h => h)
  show WS _ (b_is_chance _ _ [some (.d (.int slips)), some (.d (.int wrong)), some (.d (.int looked)), some (.d (.tup [.int chance.1, .int chance.2])), none])
  obtain ⟨y1, hy1, hg⟩ := bnd hg
  refine ws (e1 := [some (.d (.int slips)), some (.d (.int wrong)), some (.d (.int looked)), some (.d (.tup [.int chance.1, .int chance.2])), some (.lst (y1.map (mD eI)))]) (Lf.s_asg (Lf.c_call (Lf.a1 (Lf.a_v (Lf.c_v rfl)) (Lf.a1 (Lf.a_v (Lf.c_v rfl)) (Lf.a1 (Lf.a_v (Lf.c_v rfl)) Lf.a0))) rfl (l_counts kk hy1) rfl) rfl) ?_
  obtain ⟨y2, hy2, hg⟩ := bnd hg
  have hv := Option.some.inj hg
  subst hv
  exact ws_ret (Lf.c_call (Lf.a1 (Lf.a_v (Lf.c_v rfl)) (Lf.a1 (Lf.a_v (Lf.c_bV (Lf.ef1 (Lf.c_sl (Lf.c_w rfl Lf.fz_own rfl) fz_d (Lf.o_s (Lf.c_p rfl)) Lf.o_n Lf.sl_l) Lf.fz_own Lf.ef0) (Lf.f_m1 (Lf.f_sum (xs := (cut y1 (some (1 : Int)) none)) rfl)))) (Lf.a1 (Lf.a_v (Lf.c_bK (Lf.k_v rfl) rfl (Lf.f_sum (xs := y1) rfl))) Lf.a0))) rfl (l_is_share (kk + 1) hy2) rfl) ⟨rfl, rfl⟩
def g_chance_found (slips : Int) (wrong : Int) (looked : Int) : Option (Int × Int) :=
  (g_check_draw slips wrong looked).bind fun y1 =>
  (g_found_chance slips wrong looked).bind fun y2 =>
  (g_is_chance slips wrong looked y2).bind fun y3 =>
  (guardO y3).bind fun u4 =>
  some y2
theorem l_chance_found {slips : Int} {wrong : Int} {looked : Int} {vv : (Int × Int)} (kk : Nat) (hg : g_chance_found slips wrong looked = some vv) : rn tb (kk + 7) ("chance_found", none) [.d (.int slips), .d (.int wrong), .d (.int looked)] = some (.d (.tup [.int vv.1, .int vv.2]), []) := by
  unfold g_chance_found at hg
  rw [r_chance_found]
  refine runW (v := vv) (Rt := (fun (vv : (Int × Int)) (m : M) (e : Ev.Env) => m = .d (.tup [.int vv.1, .int vv.2]) ∧ takeO [] e = some [])) rfl ?_ (fun m e h => h)
  show WS _ (b_chance_found _ _ [some (.d (.int slips)), some (.d (.int wrong)), some (.d (.int looked)), none])
  obtain ⟨y1, hy1, hg⟩ := bnd hg
  refine ws (e1 := [some (.d (.int slips)), some (.d (.int wrong)), some (.d (.int looked)), none]) (Lf.s_drop (Lf.c_call (Lf.a1 (Lf.a_v (Lf.c_v rfl)) (Lf.a1 (Lf.a_v (Lf.c_v rfl)) (Lf.a1 (Lf.a_v (Lf.c_v rfl)) Lf.a0))) rfl (l_check_draw kk hy1) rfl)) ?_
  obtain ⟨y2, hy2, hg⟩ := bnd hg
  refine ws (e1 := [some (.d (.int slips)), some (.d (.int wrong)), some (.d (.int looked)), some (.d (.tup [.int y2.1, .int y2.2]))]) (Lf.s_asg (Lf.c_call (Lf.a1 (Lf.a_v (Lf.c_v rfl)) (Lf.a1 (Lf.a_v (Lf.c_v rfl)) (Lf.a1 (Lf.a_v (Lf.c_v rfl)) Lf.a0))) rfl (l_found_chance (kk + 3) hy2) rfl) rfl) ?_
  obtain ⟨y3, hy3, hg⟩ := bnd hg
  obtain ⟨u4, hu4, hg⟩ := bnd hg
  refine ws (e1 := [some (.d (.int slips)), some (.d (.int wrong)), some (.d (.int looked)), some (.d (.tup [.int y2.1, .int y2.2]))]) (Lf.s_ast (Lf.t_v (Lf.c_call (Lf.a1 (Lf.a_v (Lf.c_v rfl)) (Lf.a1 (Lf.a_v (Lf.c_v rfl)) (Lf.a1 (Lf.a_v (Lf.c_v rfl)) (Lf.a1 (Lf.a_v (Lf.c_v rfl)) Lf.a0)))) rfl (l_is_chance (kk + 2) hy3) rfl) fz_d rfl) (Lf.gd hu4)) ?_
  have hv := Option.some.inj hg
  subst hv
  exact ws_retV rfl rfl ⟨rfl, rfl⟩
def g__law_gcd (one : Int) (other : Int) : Option Int :=
  (rngO 0 (20000 : Int)).bind fun y1 =>
  (forO (fun (s2 : (Int × Int)) (x3 : Int) => (
      if (decide (s2.2 = (0 : Int))) then
        some (.bk (s2.1, s2.2))
      else
        (binI .Mod s2.1 s2.2).bind fun y6 =>
        some (.nx (s2.2, y6)) : Option (Fl (Int × Int) (Int × Int) Int))) y1 ((if (decide ((0 : Int) ≤ one)) then one else (-one)), (if (decide ((0 : Int) ≤ other)) then other else (-other)))).bind fun z8 => match z8 with
  | .rt v => none
  | .nx s7 =>
    some s7.1
theorem l__law_gcd {one : Int} {other : Int} {vv : Int} (kk : Nat) (hg : g__law_gcd one other = some vv) : rn tb (kk + 2) ("_law_gcd", none) [.d (.int one), .d (.int other)] = some (.d (.int vv), []) := by
  unfold g__law_gcd at hg
  rw [r__law_gcd]
  refine runW (v := vv) (Rt := (fun (vv : Int) (m : M) (e : Ev.Env) => m = .d (.int vv) ∧ takeO [] e = some [])) rfl ?_ (fun m e h => h)
  show WS _ (b__law_gcd _ _ [some (.d (.int one)), some (.d (.int other)), none, none, none, none])
  refine ws (e1 := [some (.d (.int one)), some (.d (.int other)), some (.d (.int (if (decide ((0 : Int) ≤ one)) then one else (-one)))), none, none, none]) (Lf.s_asg (Lf.c_ifv (mf := (mD eI)) (v1 := one) (v2 := (-one)) (Lf.t_b (Lf.c_cmp (Lf.c_v rfl) fz_d (Lf.c_p rfl) fz_d rfl)) (fun hb => (Lf.c_v rfl)) (fun hb => (Lf.c_neg (Lf.c_v rfl)))) rfl) ?_
  refine ws (e1 := [some (.d (.int one)), some (.d (.int other)), some (.d (.int (if (decide ((0 : Int) ≤ one)) then one else (-one)))), some (.d (.int (if (decide ((0 : Int) ≤ other)) then other else (-other)))), none, none]) (Lf.s_asg (Lf.c_ifv (mf := (mD eI)) (v1 := other) (v2 := (-other)) (Lf.t_b (Lf.c_cmp (Lf.c_v rfl) fz_d (Lf.c_p rfl) fz_d rfl)) (fun hb => (Lf.c_v rfl)) (fun hb => (Lf.c_neg (Lf.c_v rfl)))) rfl) ?_
  obtain ⟨y1, hy1, hg⟩ := bnd hg
  obtain ⟨z8, hz8, hg⟩ := bnd hg
  refine Lf.ws_forR (enc := eI) (xs := y1) (z := z8) (fun (ss : (Int × Int)) ee => ∃ f4_ f5_, Lf.Fl0 f4_ ∧ Lf.Fl0 f5_ ∧ ee = [some (.d (.int one)), some (.d (.int other)), some (.d (.int ss.1)), some (.d (.int ss.2)), f4_, f5_]) (fun (vv : Int) (m : M) (e : Ev.Env) => m = .d (.int vv) ∧ takeO [] e = some []) (Lf.i_r1 (Lf.ef1 (Lf.c_p rfl) fz_d Lf.ef0) hy1) ⟨_, _, Lf.fl_n, Lf.fl_n, rfl⟩ hz8 ?_ ?_ (fun v m ee hq hr => by subst hq; cases hg)
  · intro s2 x3 ee vv he hg
    obtain ⟨f4_, f5_, hf4_, hf5_, rfl⟩ := he
    refine ⟨_, (Lf.g_n rfl), ?_⟩
    refine ws_if (Lf.t_b (Lf.c_cmp (Lf.c_v rfl) fz_d (Lf.c_p rfl) fz_d (Lf.eq_e Lf.peI (by decide) s2.2 (0 : Int)))) (fun hb => ?_) (fun hb => ?_)
    · have hg := ite_t hb hg
      refine ws_assoc ?_
      have hv := Option.some.inj hg
      subst hv
      exact ws_bk ⟨_, _, Lf.fl_d, hf5_, rfl⟩
    · have hg := ite_f hb hg
      refine ws_skip ?_
      obtain ⟨y6, hy6, hg⟩ := bnd hg
      refine ws (e1 := [some (.d (.int one)), some (.d (.int other)), some (.d (.int s2.1)), some (.d (.int s2.2)), some (.d (.int x3)), some (.d (.int y6))]) (Lf.s_asg (Lf.b_i (Lf.c_bV (Lf.ef1 (Lf.c_v rfl) fz_d Lf.ef0) rfl) (Lf.c_v rfl) hy6) rfl) ?_
      refine ws (e1 := [some (.d (.int one)), some (.d (.int other)), some (.d (.int s2.2)), some (.d (.int s2.2)), some (.d (.int x3)), some (.d (.int y6))]) (Lf.s_asg (Lf.c_v rfl) rfl) ?_
      refine ws (e1 := [some (.d (.int one)), some (.d (.int other)), some (.d (.int s2.2)), some (.d (.int y6)), some (.d (.int x3)), some (.d (.int y6))]) (Lf.s_asg (Lf.c_v rfl) rfl) ?_
      have hv := Option.some.inj hg
      subst hv
      exact ws_end ⟨_, _, Lf.fl_d, Lf.fl_d, rfl⟩
  intro s7 ee hq he
  subst hq
  obtain ⟨f4_, f5_, hf4_, hf5_, rfl⟩ := he
  try dsimp only at hg
  have hv := Option.some.inj hg
  subst hv
  exact ws_retV rfl rfl ⟨rfl, rfl⟩
def g__law_red (n : Int) (d : Int) : Option (Int × Int) :=
  if (decide (d < (0 : Int))) then
    none
  else
    (g__law_gcd n d).bind fun y1 =>
    if (decide (y1 = (0 : Int))) then
      some ((0 : Int), (1 : Int))
    else
      (binI .FloorDiv n y1).bind fun y2 =>
      (binI .FloorDiv d y1).bind fun y3 =>
      some (y2, y3)
theorem l__law_red {n : Int} {d : Int} {vv : (Int × Int)} (kk : Nat) (hg : g__law_red n d = some vv) : rn tb (kk + 3) ("_law_red", none) [.d (.int n), .d (.int d)] = some (.d (.tup [.int vv.1, .int vv.2]), []) := by
  unfold g__law_red at hg
  rw [r__law_red]
  refine runW (v := vv) (Rt := (fun (vv : (Int × Int)) (m : M) (e : Ev.Env) => m = .d (.tup [.int vv.1, .int vv.2]) ∧ takeO [] e = some [])) rfl ?_ (fun m e h => h)
  show WS _ (b__law_red _ _ [some (.d (.int n)), some (.d (.int d)), none])
  refine ws_if (Lf.t_b (Lf.c_cmp (Lf.c_v rfl) fz_d (Lf.c_p rfl) fz_d rfl)) (fun hb => ?_) (fun hb => ?_)
  · have hg := ite_t hb hg
    cases hg
  · have hg := ite_f hb hg
    refine ws_skip ?_
    obtain ⟨y1, hy1, hg⟩ := bnd hg
    refine ws (e1 := [some (.d (.int n)), some (.d (.int d)), some (.d (.int y1))]) (Lf.s_asg (Lf.c_call (Lf.a1 (Lf.a_v (Lf.c_v rfl)) (Lf.a1 (Lf.a_v (Lf.c_v rfl)) Lf.a0)) rfl (l__law_gcd kk hy1) rfl) rfl) ?_
    refine ws_if (Lf.t_b (Lf.c_cmp (Lf.c_v rfl) fz_d (Lf.c_p rfl) fz_d (Lf.eq_e Lf.peI (by decide) y1 (0 : Int)))) (fun hb => ?_) (fun hb => ?_)
    · have hg := ite_t hb hg
      refine ws_assoc ?_
      have hv := Option.some.inj hg
      subst hv
      exact ws_ret (Lf.c_tup (Lf.ef1 (Lf.c_p rfl) fz_d (Lf.ef1 (Lf.c_p rfl) fz_d Lf.ef0)) (Nat.le_of_ble_eq_true rfl)) ⟨rfl, rfl⟩
    · have hg := ite_f hb hg
      refine ws_skip ?_
      obtain ⟨y2, hy2, hg⟩ := bnd hg
      obtain ⟨y3, hy3, hg⟩ := bnd hg
      have hv := Option.some.inj hg
      subst hv
      exact ws_ret (Lf.c_tup (Lf.ef1 (Lf.b_i (Lf.c_v rfl) (Lf.c_v rfl) hy2) fz_d (Lf.ef1 (Lf.b_i (Lf.c_v rfl) (Lf.c_v rfl) hy3) fz_d Lf.ef0)) (Nat.le_of_ble_eq_true rfl)) ⟨rfl, rfl⟩
def g__law_red_2 (n : Int) (d : Int) : Option (Int × Int) :=
  if (decide (d < (0 : Int))) then
    (g__law_red (-n) (-d)).bind fun y1 =>
    some y1
  else
    (g__law_gcd n d).bind fun y2 =>
    if (decide (y2 = (0 : Int))) then
      some ((0 : Int), (1 : Int))
    else
      (binI .FloorDiv n y2).bind fun y3 =>
      (binI .FloorDiv d y2).bind fun y4 =>
      some (y3, y4)
theorem l__law_red_2 {n : Int} {d : Int} {vv : (Int × Int)} (kk : Nat) (hg : g__law_red_2 n d = some vv) : rn tb (kk + 4) ("_law_red", none) [.d (.int n), .d (.int d)] = some (.d (.tup [.int vv.1, .int vv.2]), []) := by
  unfold g__law_red_2 at hg
  rw [r__law_red]
  refine runW (v := vv) (Rt := (fun (vv : (Int × Int)) (m : M) (e : Ev.Env) => m = .d (.tup [.int vv.1, .int vv.2]) ∧ takeO [] e = some [])) rfl ?_ (fun m e h => h)
  show WS _ (b__law_red _ _ [some (.d (.int n)), some (.d (.int d)), none])
  refine ws_if (Lf.t_b (Lf.c_cmp (Lf.c_v rfl) fz_d (Lf.c_p rfl) fz_d rfl)) (fun hb => ?_) (fun hb => ?_)
  · have hg := ite_t hb hg
    refine ws_assoc ?_
    obtain ⟨y1, hy1, hg⟩ := bnd hg
    have hv := Option.some.inj hg
    subst hv
    exact ws_ret (Lf.c_call (Lf.a1 (Lf.a_v (Lf.c_neg (Lf.c_v rfl))) (Lf.a1 (Lf.a_v (Lf.c_neg (Lf.c_v rfl))) Lf.a0)) rfl (l__law_red kk hy1) rfl) ⟨rfl, rfl⟩
  · have hg := ite_f hb hg
    refine ws_skip ?_
    obtain ⟨y2, hy2, hg⟩ := bnd hg
    refine ws (e1 := [some (.d (.int n)), some (.d (.int d)), some (.d (.int y2))]) (Lf.s_asg (Lf.c_call (Lf.a1 (Lf.a_v (Lf.c_v rfl)) (Lf.a1 (Lf.a_v (Lf.c_v rfl)) Lf.a0)) rfl (l__law_gcd (kk + 1) hy2) rfl) rfl) ?_
    refine ws_if (Lf.t_b (Lf.c_cmp (Lf.c_v rfl) fz_d (Lf.c_p rfl) fz_d (Lf.eq_e Lf.peI (by decide) y2 (0 : Int)))) (fun hb => ?_) (fun hb => ?_)
    · have hg := ite_t hb hg
      refine ws_assoc ?_
      have hv := Option.some.inj hg
      subst hv
      exact ws_ret (Lf.c_tup (Lf.ef1 (Lf.c_p rfl) fz_d (Lf.ef1 (Lf.c_p rfl) fz_d Lf.ef0)) (Nat.le_of_ble_eq_true rfl)) ⟨rfl, rfl⟩
    · have hg := ite_f hb hg
      refine ws_skip ?_
      obtain ⟨y3, hy3, hg⟩ := bnd hg
      obtain ⟨y4, hy4, hg⟩ := bnd hg
      have hv := Option.some.inj hg
      subst hv
      exact ws_ret (Lf.c_tup (Lf.ef1 (Lf.b_i (Lf.c_v rfl) (Lf.c_v rfl) hy3) fz_d (Lf.ef1 (Lf.b_i (Lf.c_v rfl) (Lf.c_v rfl) hy4) fz_d Lf.ef0)) (Nat.le_of_ble_eq_true rfl)) ⟨rfl, rfl⟩
def g_mean_of (slips : Int) (wrong : Int) (looked : Int) : Option (Int × Int) :=
  (binI .Mult wrong looked).bind fun y1 =>
  (g_fraction y1 slips).bind fun y2 =>
  some y2
theorem l_mean_of {slips : Int} {wrong : Int} {looked : Int} {vv : (Int × Int)} (kk : Nat) (hg : g_mean_of slips wrong looked = some vv) : rn tb (kk + 3) ("mean_of", none) [.d (.int slips), .d (.int wrong), .d (.int looked)] = some (.d (.tup [.int vv.1, .int vv.2]), []) := by
  unfold g_mean_of at hg
  rw [r_mean_of]
  refine runW (v := vv) (Rt := (fun (vv : (Int × Int)) (m : M) (e : Ev.Env) => m = .d (.tup [.int vv.1, .int vv.2]) ∧ takeO [] e = some [])) rfl ?_ (fun m e h => h)
  show WS _ (b_mean_of _ _ [some (.d (.int slips)), some (.d (.int wrong)), some (.d (.int looked))])
  obtain ⟨y1, hy1, hg⟩ := bnd hg
  obtain ⟨y2, hy2, hg⟩ := bnd hg
  have hv := Option.some.inj hg
  subst hv
  exact ws_ret (Lf.c_call (Lf.a1 (Lf.a_v (Lf.b_i (Lf.c_v rfl) (Lf.c_v rfl) hy1)) (Lf.a1 (Lf.a_v (Lf.c_v rfl)) Lf.a0)) rfl (l_fraction kk hy2) rfl) ⟨rfl, rfl⟩
def g_is_mean (slips : Int) (wrong : Int) (looked : Int) (mean : (Int × Int)) : Option Bool :=
  (g_counts slips wrong looked).bind fun y1 =>
  (mapO (enumI y1) fun (x2 : (Int × Int)) => ((binI .Mult x2.1 x2.2).bind fun y3 => some y3 : Option Int)).bind fun y4 =>
  (g_is_share mean y4.sum y1.sum).bind fun y5 =>
  some y5
theorem l_is_mean {slips : Int} {wrong : Int} {looked : Int} {mean : (Int × Int)} {vv : Bool} (kk : Nat) (hg : g_is_mean slips wrong looked mean = some vv) : rn tb (kk + 4) ("is_mean", none) [.d (.int slips), .d (.int wrong), .d (.int looked), .d (.tup [.int mean.1, .int mean.2])] = some (.d (.bl vv), []) := by
  unfold g_is_mean at hg
  rw [r_is_mean]
  refine runW (v := vv) (Rt := (fun (vv : Bool) (m : M) (e : Ev.Env) => m = .d (.bl vv) ∧ takeO [] e = some [])) rfl ?_ (fun m e h => h)
  show WS _ (b_is_mean _ _ [some (.d (.int slips)), some (.d (.int wrong)), some (.d (.int looked)), some (.d (.tup [.int mean.1, .int mean.2])), none, none, none])
  obtain ⟨y1, hy1, hg⟩ := bnd hg
  refine ws (e1 := [some (.d (.int slips)), some (.d (.int wrong)), some (.d (.int looked)), some (.d (.tup [.int mean.1, .int mean.2])), some (.lst (y1.map (mD eI))), none, none]) (Lf.s_asg (Lf.c_call (Lf.a1 (Lf.a_v (Lf.c_v rfl)) (Lf.a1 (Lf.a_v (Lf.c_v rfl)) (Lf.a1 (Lf.a_v (Lf.c_v rfl)) Lf.a0))) rfl (l_counts kk hy1) rfl) rfl) ?_
  obtain ⟨y4, hy4, hg⟩ := bnd hg
  obtain ⟨y5, hy5, hg⟩ := bnd hg
  have hv := Option.some.inj hg
  subst hv
  exact ws_ret (Lf.c_call (Lf.a1 (Lf.a_v (Lf.c_v rfl)) (Lf.a1 (Lf.a_v (Lf.c_bV (Lf.ef1 (Lf.d_mapO (enc := (eP2 eI eI)) (xs := (enumI y1)) (e2 := [some (.d (.int slips)), some (.d (.int wrong)), some (.d (.int looked)), some (.d (.tup [.int mean.1, .int mean.2])), some (.d (.lst (y1.map eI))), none, none]) (mD eI) hy4 (Lf.i_en (xs := y1) (f := eI) (Lf.c_w rfl Lf.fz_own rfl) fz_d rfl) rfl (by simp) rfl (fun x2 vv hg => by obtain ⟨y3, hy3, hg⟩ := bnd hg; have hv := Option.some.inj hg; subst hv; exact ⟨_, _, (Lf.g_t (Lf.gs1 (Lf.g_n rfl) (Lf.gs1 (Lf.g_n rfl) Lf.gs0))), (Lf.b_i (Lf.c_v rfl) (Lf.c_v rfl) hy3), rfl⟩) rfl) Lf.fz_own Lf.ef0) (Lf.f_m1 (Lf.f_sum (xs := y4) rfl)))) (Lf.a1 (Lf.a_v (Lf.c_bK (Lf.k_v rfl) rfl (Lf.f_sum (xs := y1) rfl))) Lf.a0))) rfl (l_is_share (kk + 1) hy5) rfl) ⟨rfl, rfl⟩
def g_mean_found (slips : Int) (wrong : Int) (looked : Int) : Option (Int × Int) :=
  (g_check_draw slips wrong looked).bind fun y1 =>
  (g_mean_of slips wrong looked).bind fun y2 =>
  (g_is_mean slips wrong looked y2).bind fun y3 =>
  (guardO y3).bind fun u4 =>
  some y2
theorem l_mean_found {slips : Int} {wrong : Int} {looked : Int} {vv : (Int × Int)} (kk : Nat) (hg : g_mean_found slips wrong looked = some vv) : rn tb (kk + 7) ("mean_found", none) [.d (.int slips), .d (.int wrong), .d (.int looked)] = some (.d (.tup [.int vv.1, .int vv.2]), []) := by
  unfold g_mean_found at hg
  rw [r_mean_found]
  refine runW (v := vv) (Rt := (fun (vv : (Int × Int)) (m : M) (e : Ev.Env) => m = .d (.tup [.int vv.1, .int vv.2]) ∧ takeO [] e = some [])) rfl ?_ (fun m e h => h)
  show WS _ (b_mean_found _ _ [some (.d (.int slips)), some (.d (.int wrong)), some (.d (.int looked)), none])
  obtain ⟨y1, hy1, hg⟩ := bnd hg
  refine ws (e1 := [some (.d (.int slips)), some (.d (.int wrong)), some (.d (.int looked)), none]) (Lf.s_drop (Lf.c_call (Lf.a1 (Lf.a_v (Lf.c_v rfl)) (Lf.a1 (Lf.a_v (Lf.c_v rfl)) (Lf.a1 (Lf.a_v (Lf.c_v rfl)) Lf.a0))) rfl (l_check_draw kk hy1) rfl)) ?_
  obtain ⟨y2, hy2, hg⟩ := bnd hg
  refine ws (e1 := [some (.d (.int slips)), some (.d (.int wrong)), some (.d (.int looked)), some (.d (.tup [.int y2.1, .int y2.2]))]) (Lf.s_asg (Lf.c_call (Lf.a1 (Lf.a_v (Lf.c_v rfl)) (Lf.a1 (Lf.a_v (Lf.c_v rfl)) (Lf.a1 (Lf.a_v (Lf.c_v rfl)) Lf.a0))) rfl (l_mean_of (kk + 3) hy2) rfl) rfl) ?_
  obtain ⟨y3, hy3, hg⟩ := bnd hg
  obtain ⟨u4, hu4, hg⟩ := bnd hg
  refine ws (e1 := [some (.d (.int slips)), some (.d (.int wrong)), some (.d (.int looked)), some (.d (.tup [.int y2.1, .int y2.2]))]) (Lf.s_ast (Lf.t_v (Lf.c_call (Lf.a1 (Lf.a_v (Lf.c_v rfl)) (Lf.a1 (Lf.a_v (Lf.c_v rfl)) (Lf.a1 (Lf.a_v (Lf.c_v rfl)) (Lf.a1 (Lf.a_v (Lf.c_v rfl)) Lf.a0)))) rfl (l_is_mean (kk + 2) hy3) rfl) fz_d rfl) (Lf.gd hu4)) ?_
  have hv := Option.some.inj hg
  subst hv
  exact ws_retV rfl rfl ⟨rfl, rfl⟩
def g_peak_of (slips : Int) (wrong : Int) (looked : Int) : Option Int :=
  (binI .Mult (wrong + (1 : Int)) (looked + (1 : Int))).bind fun y1 =>
  (binI .FloorDiv (y1 - (1 : Int)) (slips + (2 : Int))).bind fun y2 =>
  some y2
theorem l_peak_of {slips : Int} {wrong : Int} {looked : Int} {vv : Int} (kk : Nat) (hg : g_peak_of slips wrong looked = some vv) : rn tb (kk + 2) ("peak_of", none) [.d (.int slips), .d (.int wrong), .d (.int looked)] = some (.d (.int vv), []) := by
  unfold g_peak_of at hg
  rw [r_peak_of]
  refine runW (v := vv) (Rt := (fun (vv : Int) (m : M) (e : Ev.Env) => m = .d (.int vv) ∧ takeO [] e = some [])) rfl ?_ (fun m e h => h)
  show WS _ (b_peak_of _ _ [some (.d (.int slips)), some (.d (.int wrong)), some (.d (.int looked))])
  obtain ⟨y1, hy1, hg⟩ := bnd hg
  obtain ⟨y2, hy2, hg⟩ := bnd hg
  have hv := Option.some.inj hg
  subst hv
  exact ws_ret (Lf.b_i (Lf.b_i (Lf.b_i (Lf.b_i (Lf.c_v rfl) (Lf.c_p rfl) rfl) (Lf.b_i (Lf.c_v rfl) (Lf.c_p rfl) rfl) hy1) (Lf.c_p rfl) rfl) (Lf.b_i (Lf.c_v rfl) (Lf.c_p rfl) rfl) hy2) ⟨rfl, rfl⟩
def g_is_peak (slips : Int) (wrong : Int) (looked : Int) (found : Int) : Option Bool :=
  (g_counts slips wrong looked).bind fun y1 =>
  (maxO y1).bind fun y2 =>
  (idxO y2 y1).bind fun y3 =>
  some (decide (y3 = found))
theorem l_is_peak {slips : Int} {wrong : Int} {looked : Int} {found : Int} {vv : Bool} (kk : Nat) (hg : g_is_peak slips wrong looked found = some vv) : rn tb (kk + 4) ("is_peak", none) [.d (.int slips), .d (.int wrong), .d (.int looked), .d (.int found)] = some (.d (.bl vv), []) := by
  unfold g_is_peak at hg
  rw [r_is_peak]
  refine runW (v := vv) (Rt := (fun (vv : Bool) (m : M) (e : Ev.Env) => m = .d (.bl vv) ∧ takeO [] e = some [])) rfl ?_ (fun m e h => h)
  show WS _ (b_is_peak _ _ [some (.d (.int slips)), some (.d (.int wrong)), some (.d (.int looked)), some (.d (.int found)), none])
  obtain ⟨y1, hy1, hg⟩ := bnd hg
  refine ws (e1 := [some (.d (.int slips)), some (.d (.int wrong)), some (.d (.int looked)), some (.d (.int found)), some (.lst (y1.map (mD eI)))]) (Lf.s_asg (Lf.c_call (Lf.a1 (Lf.a_v (Lf.c_v rfl)) (Lf.a1 (Lf.a_v (Lf.c_v rfl)) (Lf.a1 (Lf.a_v (Lf.c_v rfl)) Lf.a0))) rfl (l_counts kk hy1) rfl) rfl) ?_
  obtain ⟨y2, hy2, hg⟩ := bnd hg
  obtain ⟨y3, hy3, hg⟩ := bnd hg
  have hv := Option.some.inj hg
  subst hv
  exact ws_ret (Lf.c_cmp (Lf.c_mV (Lf.c_w rfl Lf.fz_own rfl) fz_d (Lf.c_bK (Lf.k_v rfl) rfl (Lf.f_max (xs := y1) rfl hy2)) fz_d (Lf.idx_e Lf.peI (by decide) hy3).2) fz_d (Lf.c_v rfl) fz_d (Lf.eq_e Lf.peI (by decide) y3 found)) ⟨rfl, rfl⟩
def g_most_likely_found (slips : Int) (wrong : Int) (looked : Int) : Option Int :=
  (g_check_draw slips wrong looked).bind fun y1 =>
  (g_peak_of slips wrong looked).bind fun y2 =>
  (g_is_peak slips wrong looked y2).bind fun y3 =>
  (guardO y3).bind fun u4 =>
  some y2
theorem l_most_likely_found {slips : Int} {wrong : Int} {looked : Int} {vv : Int} (kk : Nat) (hg : g_most_likely_found slips wrong looked = some vv) : rn tb (kk + 7) ("most_likely_found", none) [.d (.int slips), .d (.int wrong), .d (.int looked)] = some (.d (.int vv), []) := by
  unfold g_most_likely_found at hg
  rw [r_most_likely_found]
  refine runW (v := vv) (Rt := (fun (vv : Int) (m : M) (e : Ev.Env) => m = .d (.int vv) ∧ takeO [] e = some [])) rfl ?_ (fun m e h => h)
  show WS _ (b_most_likely_found _ _ [some (.d (.int slips)), some (.d (.int wrong)), some (.d (.int looked)), none])
  obtain ⟨y1, hy1, hg⟩ := bnd hg
  refine ws (e1 := [some (.d (.int slips)), some (.d (.int wrong)), some (.d (.int looked)), none]) (Lf.s_drop (Lf.c_call (Lf.a1 (Lf.a_v (Lf.c_v rfl)) (Lf.a1 (Lf.a_v (Lf.c_v rfl)) (Lf.a1 (Lf.a_v (Lf.c_v rfl)) Lf.a0))) rfl (l_check_draw kk hy1) rfl)) ?_
  obtain ⟨y2, hy2, hg⟩ := bnd hg
  refine ws (e1 := [some (.d (.int slips)), some (.d (.int wrong)), some (.d (.int looked)), some (.d (.int y2))]) (Lf.s_asg (Lf.c_call (Lf.a1 (Lf.a_v (Lf.c_v rfl)) (Lf.a1 (Lf.a_v (Lf.c_v rfl)) (Lf.a1 (Lf.a_v (Lf.c_v rfl)) Lf.a0))) rfl (l_peak_of (kk + 4) hy2) rfl) rfl) ?_
  obtain ⟨y3, hy3, hg⟩ := bnd hg
  obtain ⟨u4, hu4, hg⟩ := bnd hg
  refine ws (e1 := [some (.d (.int slips)), some (.d (.int wrong)), some (.d (.int looked)), some (.d (.int y2))]) (Lf.s_ast (Lf.t_v (Lf.c_call (Lf.a1 (Lf.a_v (Lf.c_v rfl)) (Lf.a1 (Lf.a_v (Lf.c_v rfl)) (Lf.a1 (Lf.a_v (Lf.c_v rfl)) (Lf.a1 (Lf.a_v (Lf.c_v rfl)) Lf.a0)))) rfl (l_is_peak (kk + 2) hy3) rfl) fz_d rfl) (Lf.gd hu4)) ?_
  have hv := Option.some.inj hg
  subst hv
  exact ws_retV rfl rfl ⟨rfl, rfl⟩
def g__law_less (one : (Int × Int)) (other : (Int × Int)) : Option Bool :=
  (binI .Mult one.1 other.2).bind fun y1 =>
  (binI .Mult other.1 one.2).bind fun y2 =>
  some (decide (y1 < y2))
theorem l__law_less {one : (Int × Int)} {other : (Int × Int)} {vv : Bool} (kk : Nat) (hg : g__law_less one other = some vv) : rn tb (kk + 2) ("_law_less", none) [.d (.tup [.int one.1, .int one.2]), .d (.tup [.int other.1, .int other.2])] = some (.d (.bl vv), []) := by
  unfold g__law_less at hg
  rw [r__law_less]
  refine runW (v := vv) (Rt := (fun (vv : Bool) (m : M) (e : Ev.Env) => m = .d (.bl vv) ∧ takeO [] e = some [])) rfl ?_ (fun m e h => h)
  show WS _ (b__law_less _ _ [some (.d (.tup [.int one.1, .int one.2])), some (.d (.tup [.int other.1, .int other.2]))])
  obtain ⟨y1, hy1, hg⟩ := bnd hg
  obtain ⟨y2, hy2, hg⟩ := bnd hg
  have hv := Option.some.inj hg
  subst hv
  exact ws_ret (Lf.c_cmp (Lf.b_i (Lf.c_k (Lf.k_i (Lf.k_v rfl) rfl rfl)) (Lf.c_k (Lf.k_i (Lf.k_v rfl) rfl rfl)) hy1) fz_d (Lf.b_i (Lf.c_k (Lf.k_i (Lf.k_v rfl) rfl rfl)) (Lf.c_k (Lf.k_i (Lf.k_v rfl) rfl rfl)) hy2) fz_d rfl) ⟨rfl, rfl⟩
def g_is_sequence_pii (value : (Int × Int)) : Option Bool :=
  some true
theorem l_is_sequence_pii {value : (Int × Int)} {vv : Bool} (kk : Nat) (hg : g_is_sequence_pii value = some vv) : rn tb (kk + 2) ("is_sequence", none) [.d (.tup [.int value.1, .int value.2])] = some (.d (.bl vv), []) := by
  unfold g_is_sequence_pii at hg
  rw [r_is_sequence]
  refine runW (v := vv) (Rt := (fun (vv : Bool) (m : M) (e : Ev.Env) => m = .d (.bl vv) ∧ takeO [] e = some [])) rfl ?_ (fun m e h => h)
  show WS _ (b_is_sequence _ _ [some (.d (.tup [.int value.1, .int value.2]))])
  have hv := Option.some.inj hg
  subst hv
  exact ws_ret (Lf.c_bV (Lf.ef1 (Lf.c_v rfl) fz_d Lf.ef0) (show one (isTs ["list", "tuple"]) [.tup [.int value.1, .int value.2]] = some (.d (.bl true)) by simp [isTs, tyD, known, isB])) ⟨rfl, rfl⟩
def g_need_sequence_pii (value : (Int × Int)) (fewest : Int) (most : Int) (at_ : Int) : Option (Int × Int) :=
  (g_is_sequence_pii value).bind fun y1 =>
  if ((!y1) || (decide ((2 : Int) < fewest))) then
    none
  else
    if (decide (most < (2 : Int))) then
      none
    else
      some value
theorem l_need_sequence_pii {value : (Int × Int)} {fewest : Int} {most : Int} {at_ : Int} {vv : (Int × Int)} (kk : Nat) (hg : g_need_sequence_pii value fewest most at_ = some vv) : rn tb (kk + 3) ("need_sequence", none) [.d (.tup [.int value.1, .int value.2]), .d (.int fewest), .d (.int most), .d (.int at_)] = some (.d (.tup [.int vv.1, .int vv.2]), []) := by
  unfold g_need_sequence_pii at hg
  rw [r_need_sequence]
  refine runW (v := vv) (Rt := (fun (vv : (Int × Int)) (m : M) (e : Ev.Env) => m = .d (.tup [.int vv.1, .int vv.2]) ∧ takeO [] e = some [])) rfl ?_ (fun m e h => h)
  show WS _ (b_need_sequence _ _ [some (.d (.tup [.int value.1, .int value.2])), some (.d (.int fewest)), some (.d (.int most)), some (.d (.int at_))])
  obtain ⟨y1, hy1, hg⟩ := bnd hg
  refine ws_if (Lf.t_or (Lf.t_not (Lf.t_v (Lf.c_call (Lf.a1 (Lf.a_v (Lf.c_v rfl)) Lf.a0) rfl (l_is_sequence_pii kk hy1) rfl) fz_d rfl)) (fun hb => (Lf.t_b (Lf.c_cmp (Lf.c_p (Lf.p_len (Lf.k_v rfl) rfl)) fz_d (Lf.c_v rfl) fz_d rfl)))) (fun hb => ?_) (fun hb => ?_)
  · have hg := ite_t hb hg
    refine ws_assoc ?_
    cases hg
  · have hg := ite_f hb hg
    refine ws_skip ?_
    refine ws_if (Lf.t_andz (z := (decide (most < (2 : Int)))) (Lf.t_b (Lf.c_cmp (Lf.c_v rfl) fz_d (Lf.c_p rfl) fz_d rfl)) (fun _ => (Lf.t_b (Lf.c_cmp (Lf.c_p (Lf.p_len (Lf.k_v rfl) rfl)) fz_d (Lf.c_v rfl) fz_d rfl))) (fun hb => by cases hb)) (fun hb => ?_) (fun hb => ?_)
    · have hg := ite_t hb hg
      refine ws_assoc ?_
      cases hg
    · have hg := ite_f hb hg
      refine ws_skip ?_
      have hv := Option.some.inj hg
      subst hv
      exact ws_ret (Lf.c_bK (Lf.k_v rfl) rfl (Lf.f_tup rfl)) ⟨rfl, rfl⟩
def g_need_fraction_pii (value : (Int × Int)) (at_ : Int) (most : Int) : Option (Int × Int) :=
  (g_need_sequence_pii value (2 : Int) (2 : Int) at_).bind fun y1 =>
  (g_is_within y1.1 (-(1000000 : Int)) (1000000 : Int)).bind fun y2 =>
  (if (!y2) then some true else (g_is_within y1.2 (1 : Int) most).bind fun y3 => some (!y3)).bind fun y4 =>
  if y4 then
    none
  else
    if (!(decide (((Nat.gcd y1.1.natAbs y1.2.natAbs : Nat) : Int) = (1 : Int)))) then
      none
    else
      some y1
theorem l_need_fraction_pii {value : (Int × Int)} {at_ : Int} {most : Int} {vv : (Int × Int)} (kk : Nat) (hg : g_need_fraction_pii value at_ most = some vv) : rn tb (kk + 4) ("need_fraction", none) [.d (.tup [.int value.1, .int value.2]), .d (.int at_), .d (.int most)] = some (.d (.tup [.int vv.1, .int vv.2]), []) := by
  unfold g_need_fraction_pii at hg
  rw [r_need_fraction]
  refine runW (v := vv) (Rt := (fun (vv : (Int × Int)) (m : M) (e : Ev.Env) => m = .d (.tup [.int vv.1, .int vv.2]) ∧ takeO [] e = some [])) rfl ?_ (fun m e h => h)
  show WS _ (b_need_fraction _ _ [some (.d (.tup [.int value.1, .int value.2])), some (.d (.int at_)), some (.d (.int most)), none, none, none])
  obtain ⟨y1, hy1, hg⟩ := bnd hg
  refine ws (e1 := [some (.d (.tup [.int value.1, .int value.2])), some (.d (.int at_)), some (.d (.int most)), some (.d (.tup [.int y1.1, .int y1.2])), none, none]) (Lf.s_asg (Lf.c_call (Lf.a1 (Lf.a_v (Lf.c_v rfl)) (Lf.a1 (Lf.a_v (Lf.c_p rfl)) (Lf.a1 (Lf.a_v (Lf.c_p rfl)) (Lf.a1 (Lf.a_v (Lf.c_v rfl)) Lf.a0)))) rfl (l_need_sequence_pii kk hy1) rfl) rfl) ?_
  refine ws (e1 := [some (.d (.tup [.int value.1, .int value.2])), some (.d (.int at_)), some (.d (.int most)), some (.d (.tup [.int y1.1, .int y1.2])), some (.d (.int y1.1)), some (.d (.int y1.2))]) (Lf.s_tgt (Lf.c_v rfl) fz_d (Lf.g_t (Lf.gs1 (Lf.g_n rfl) (Lf.gs1 (Lf.g_n rfl) Lf.gs0)))) ?_
  obtain ⟨y2, hy2, hg⟩ := bnd hg
  obtain ⟨y4, hy4, hg⟩ := bnd hg
  refine ws_if (Lf.t_orz (z := y4) (Lf.t_not (Lf.t_v (Lf.c_call (Lf.a1 (Lf.a_v (Lf.c_v rfl)) (Lf.a1 (Lf.a_v (Lf.c_neg (Lf.c_k rfl))) (Lf.a1 (Lf.a_v (Lf.c_k rfl)) Lf.a0))) rfl (l_is_within kk hy2) rfl) fz_d rfl)) (fun hb => by have hg := ite_f hb hy4; obtain ⟨y3, hy3, hg⟩ := bnd hg; exact Lf.tcv (Lf.t_not (Lf.t_v (Lf.c_call (Lf.a1 (Lf.a_v (Lf.c_v rfl)) (Lf.a1 (Lf.a_v (Lf.c_p rfl)) (Lf.a1 (Lf.a_v (Lf.c_v rfl)) Lf.a0))) rfl (l_is_within kk hy3) rfl) fz_d rfl)) (Option.some.inj hg)) (fun hb => by have hg := ite_t hb hy4; cases hg; rfl)) (fun hb => ?_) (fun hb => ?_)
  · have hg := ite_t hb hg
    refine ws_assoc ?_
    cases hg
  · have hg := ite_f hb hg
    refine ws_skip ?_
    refine ws_if (Lf.t_b (Lf.c_cmp (Lf.c_bV (Lf.ef1 (Lf.c_v rfl) fz_d (Lf.ef1 (Lf.c_v rfl) fz_d Lf.ef0)) rfl) fz_d (Lf.c_p rfl) fz_d (Lf.ne_e Lf.peI (by decide) ((Nat.gcd y1.1.natAbs y1.2.natAbs : Nat) : Int) (1 : Int)))) (fun hb => ?_) (fun hb => ?_)
    · have hg := ite_t hb hg
      refine ws_assoc ?_
      cases hg
    · have hg := ite_f hb hg
      refine ws_skip ?_
      have hv := Option.some.inj hg
      subst hv
      exact ws_retV rfl rfl ⟨rfl, rfl⟩
def g_check_sure (sure : (Int × Int)) (at_ : Int) : Option (Int × Int) :=
  (g_need_fraction_pii sure at_ (1000000 : Int)).bind fun y1 =>
  (g_is_within y1.1 (0 : Int) y1.2).bind fun y2 =>
  (g_need y2 at_).bind fun y3 =>
  some y1
theorem l_check_sure {sure : (Int × Int)} {at_ : Int} {vv : (Int × Int)} (kk : Nat) (hg : g_check_sure sure at_ = some vv) : rn tb (kk + 5) ("check_sure", none) [.d (.tup [.int sure.1, .int sure.2]), .d (.int at_)] = some (.d (.tup [.int vv.1, .int vv.2]), []) := by
  unfold g_check_sure at hg
  rw [r_check_sure]
  refine runW (v := vv) (Rt := (fun (vv : (Int × Int)) (m : M) (e : Ev.Env) => m = .d (.tup [.int vv.1, .int vv.2]) ∧ takeO [] e = some [])) rfl ?_ (fun m e h => h)
  show WS _ (b_check_sure _ _ [some (.d (.tup [.int sure.1, .int sure.2])), some (.d (.int at_)), none])
  obtain ⟨y1, hy1, hg⟩ := bnd hg
  refine ws (e1 := [some (.d (.tup [.int sure.1, .int sure.2])), some (.d (.int at_)), some (.d (.tup [.int y1.1, .int y1.2]))]) (Lf.s_asg (Lf.c_call (Lf.a1 (Lf.a_v (Lf.c_v rfl)) (Lf.a1 (Lf.a_v (Lf.c_v rfl)) Lf.a0)) rfl (l_need_fraction_pii kk hy1) rfl) rfl) ?_
  obtain ⟨y2, hy2, hg⟩ := bnd hg
  obtain ⟨y3, hy3, hg⟩ := bnd hg
  refine ws (e1 := [some (.d (.tup [.int sure.1, .int sure.2])), some (.d (.int at_)), some (.d (.tup [.int y1.1, .int y1.2]))]) (Lf.s_drop (Lf.c_call (Lf.a1 (Lf.a_v (Lf.c_call (Lf.a1 (Lf.a_v (Lf.c_k (Lf.k_i (Lf.k_v rfl) rfl rfl))) (Lf.a1 (Lf.a_v (Lf.c_p rfl)) (Lf.a1 (Lf.a_v (Lf.c_k (Lf.k_i (Lf.k_v rfl) rfl rfl))) Lf.a0))) rfl (l_is_within (kk + 1) hy2) rfl)) (Lf.a1 (Lf.a_v (Lf.c_v rfl)) Lf.a0)) rfl (l_need (kk + 2) hy3) rfl)) ?_
  have hv := Option.some.inj hg
  subst hv
  exact ws_retV rfl rfl ⟨rfl, rfl⟩
def g_looks_for (slips : Int) (wrong : Int) (sure : (Int × Int)) : Option (Option Int) :=
  (rngO 0 (slips + (1 : Int))).bind fun y1 =>
  (forO (fun (s2 : (Int × Int)) (x3 : Int) => (
      (binI .Mult (s2.2 - s2.1) sure.2).bind fun y5 =>
      (binI .Mult sure.1 s2.2).bind fun y6 =>
      if (decide (y6 ≤ y5)) then
        some (.rt (some x3))
      else
        (binI .Mult s2.1 (max (0 : Int) ((slips - wrong) - x3))).bind fun y7 =>
        (binI .Mult s2.2 (max (1 : Int) (slips - x3))).bind fun y8 =>
        some (.nx (y7, y8)) : Option (Fl (Int × Int) (Int × Int) (Option Int)))) y1 ((1 : Int), (1 : Int))).bind fun z10 => match z10 with
  | .rt v => some v
  | .nx s9 =>
    some none
theorem l_looks_for {slips : Int} {wrong : Int} {sure : (Int × Int)} {vv : (Option Int)} (kk : Nat) (hg : g_looks_for slips wrong sure = some vv) : rn tb (kk + 2) ("looks_for", none) [.d (.int slips), .d (.int wrong), .d (.tup [.int sure.1, .int sure.2])] = some (.d (eO eI vv), []) := by
  unfold g_looks_for at hg
  rw [r_looks_for]
  refine runW (v := vv) (Rt := (fun (vv : (Option Int)) (m : M) (e : Ev.Env) => m = .d (eO eI vv) ∧ takeO [] e = some [])) rfl ?_ (fun m e h => h)
  show WS _ (b_looks_for _ _ [some (.d (.int slips)), some (.d (.int wrong)), some (.d (.tup [.int sure.1, .int sure.2])), none, none, none])
  refine ws (e1 := [some (.d (.int slips)), some (.d (.int wrong)), some (.d (.tup [.int sure.1, .int sure.2])), some (.d (.int (1 : Int))), none, none]) (Lf.s_asg (Lf.c_p rfl) rfl) ?_
  refine ws (e1 := [some (.d (.int slips)), some (.d (.int wrong)), some (.d (.tup [.int sure.1, .int sure.2])), some (.d (.int (1 : Int))), some (.d (.int (1 : Int))), none]) (Lf.s_asg (Lf.c_p rfl) rfl) ?_
  obtain ⟨y1, hy1, hg⟩ := bnd hg
  obtain ⟨z10, hz10, hg⟩ := bnd hg
  refine Lf.ws_forR (enc := eI) (xs := y1) (z := z10) (fun (ss : (Int × Int)) ee => ∃ f4_, Lf.Fl0 f4_ ∧ ee = [some (.d (.int slips)), some (.d (.int wrong)), some (.d (.tup [.int sure.1, .int sure.2])), some (.d (.int ss.1)), some (.d (.int ss.2)), f4_]) (fun (vv : (Option Int)) (m : M) (e : Ev.Env) => m = .d (eO eI vv) ∧ takeO [] e = some []) (Lf.i_r1 (Lf.ef1 (Lf.b_i (Lf.c_v rfl) (Lf.c_p rfl) rfl) fz_d Lf.ef0) hy1) ⟨_, Lf.fl_n, rfl⟩ hz10 ?_ ?_ (fun v m ee hq hr => by subst hq; cases hg; exact hr)
  · intro s2 x3 ee vv he hg
    obtain ⟨f4_, hf4_, rfl⟩ := he
    refine ⟨_, (Lf.g_n rfl), ?_⟩
    obtain ⟨y5, hy5, hg⟩ := bnd hg
    obtain ⟨y6, hy6, hg⟩ := bnd hg
    refine ws_if (Lf.t_b (Lf.c_cmp (Lf.b_i (Lf.b_i (Lf.c_v rfl) (Lf.c_v rfl) rfl) (Lf.c_k (Lf.k_i (Lf.k_v rfl) rfl rfl)) hy5) fz_d (Lf.b_i (Lf.c_k (Lf.k_i (Lf.k_v rfl) rfl rfl)) (Lf.c_v rfl) hy6) fz_d rfl)) (fun hb => ?_) (fun hb => ?_)
    · have hg := ite_t hb hg
      refine ws_assoc ?_
      have hv := Option.some.inj hg
      subst hv
      exact ws_retV rfl rfl ⟨rfl, rfl⟩
    · have hg := ite_f hb hg
      refine ws_skip ?_
      obtain ⟨y7, hy7, hg⟩ := bnd hg
      refine ws (e1 := [some (.d (.int slips)), some (.d (.int wrong)), some (.d (.tup [.int sure.1, .int sure.2])), some (.d (.int y7)), some (.d (.int s2.2)), some (.d (.int x3))]) (Lf.s_asg (Lf.b_i (Lf.c_v rfl) (Lf.c_bV (Lf.ef1 (Lf.c_p rfl) fz_d (Lf.ef1 (Lf.b_i (Lf.b_i (Lf.c_v rfl) (Lf.c_v rfl) rfl) (Lf.c_v rfl) rfl) fz_d Lf.ef0)) Lf.f_max2) hy7) rfl) ?_
      obtain ⟨y8, hy8, hg⟩ := bnd hg
      refine ws (e1 := [some (.d (.int slips)), some (.d (.int wrong)), some (.d (.tup [.int sure.1, .int sure.2])), some (.d (.int y7)), some (.d (.int y8)), some (.d (.int x3))]) (Lf.s_asg (Lf.b_i (Lf.c_v rfl) (Lf.c_bV (Lf.ef1 (Lf.c_p rfl) fz_d (Lf.ef1 (Lf.b_i (Lf.c_v rfl) (Lf.c_v rfl) rfl) fz_d Lf.ef0)) Lf.f_max2) hy8) rfl) ?_
      have hv := Option.some.inj hg
      subst hv
      exact ws_end ⟨_, Lf.fl_d, rfl⟩
  intro s9 ee hq he
  subst hq
  obtain ⟨f4_, hf4_, rfl⟩ := he
  try dsimp only at hg
  have hv := Option.some.inj hg
  subst hv
  exact ws_ret (Lf.c_p rfl) ⟨rfl, rfl⟩
def g_is_enough (slips : Int) (wrong : Int) (looked : Int) (sure : (Int × Int)) : Option Bool :=
  (combO slips looked).bind fun y1 =>
  (combO (slips - wrong) looked).bind fun y2 =>
  (binI .Mult (y1 - y2) sure.2).bind fun y3 =>
  (binI .Mult sure.1 y1).bind fun y4 =>
  some (decide (y4 ≤ y3))
theorem l_is_enough {slips : Int} {wrong : Int} {looked : Int} {sure : (Int × Int)} {vv : Bool} (kk : Nat) (hg : g_is_enough slips wrong looked sure = some vv) : rn tb (kk + 2) ("is_enough", none) [.d (.int slips), .d (.int wrong), .d (.int looked), .d (.tup [.int sure.1, .int sure.2])] = some (.d (.bl vv), []) := by
  unfold g_is_enough at hg
  rw [r_is_enough]
  refine runW (v := vv) (Rt := (fun (vv : Bool) (m : M) (e : Ev.Env) => m = .d (.bl vv) ∧ takeO [] e = some [])) rfl ?_ (fun m e h => h)
  show WS _ (b_is_enough _ _ [some (.d (.int slips)), some (.d (.int wrong)), some (.d (.int looked)), some (.d (.tup [.int sure.1, .int sure.2])), none, none])
  obtain ⟨y1, hy1, hg⟩ := bnd hg
  refine ws (e1 := [some (.d (.int slips)), some (.d (.int wrong)), some (.d (.int looked)), some (.d (.tup [.int sure.1, .int sure.2])), some (.d (.int y1)), none]) (Lf.s_asg (Lf.c_bV (Lf.ef1 (Lf.c_v rfl) fz_d (Lf.ef1 (Lf.c_v rfl) fz_d Lf.ef0)) (Lf.f_comb hy1)) rfl) ?_
  obtain ⟨y2, hy2, hg⟩ := bnd hg
  refine ws (e1 := [some (.d (.int slips)), some (.d (.int wrong)), some (.d (.int looked)), some (.d (.tup [.int sure.1, .int sure.2])), some (.d (.int y1)), some (.d (.int (y1 - y2)))]) (Lf.s_asg (Lf.b_i (Lf.c_v rfl) (Lf.c_bV (Lf.ef1 (Lf.b_i (Lf.c_v rfl) (Lf.c_v rfl) rfl) fz_d (Lf.ef1 (Lf.c_v rfl) fz_d Lf.ef0)) (Lf.f_comb hy2)) rfl) rfl) ?_
  obtain ⟨y3, hy3, hg⟩ := bnd hg
  obtain ⟨y4, hy4, hg⟩ := bnd hg
  have hv := Option.some.inj hg
  subst hv
  exact ws_ret (Lf.c_cmp (Lf.b_i (Lf.c_v rfl) (Lf.c_k (Lf.k_i (Lf.k_v rfl) rfl rfl)) hy3) fz_d (Lf.b_i (Lf.c_k (Lf.k_i (Lf.k_v rfl) rfl rfl)) (Lf.c_v rfl) hy4) fz_d rfl) ⟨rfl, rfl⟩
def g_is_enough_2 (slips : Int) (wrong : Int) (looked : Option Int) (sure : (Int × Int)) : Option Bool :=
  (looked).bind fun y1 =>
  (combO slips y1).bind fun y2 =>
  (looked).bind fun y3 =>
  (combO (slips - wrong) y3).bind fun y4 =>
  (binI .Mult (y2 - y4) sure.2).bind fun y5 =>
  (binI .Mult sure.1 y2).bind fun y6 =>
  some (decide (y6 ≤ y5))
theorem l_is_enough_2 {slips : Int} {wrong : Int} {looked : Option Int} {sure : (Int × Int)} {vv : Bool} (kk : Nat) (hg : g_is_enough_2 slips wrong looked sure = some vv) : rn tb (kk + 2) ("is_enough", none) [.d (.int slips), .d (.int wrong), .d (eO eI looked), .d (.tup [.int sure.1, .int sure.2])] = some (.d (.bl vv), []) := by
  unfold g_is_enough_2 at hg
  rw [r_is_enough]
  refine runW (v := vv) (Rt := (fun (vv : Bool) (m : M) (e : Ev.Env) => m = .d (.bl vv) ∧ takeO [] e = some [])) rfl ?_ (fun m e h => h)
  show WS _ (b_is_enough _ _ [some (.d (.int slips)), some (.d (.int wrong)), some (.d (eO eI looked)), some (.d (.tup [.int sure.1, .int sure.2])), none, none])
  obtain ⟨y1, hy1, hg⟩ := bnd hg
  obtain ⟨y2, hy2, hg⟩ := bnd hg
  refine ws (e1 := [some (.d (.int slips)), some (.d (.int wrong)), some (.d (eO eI looked)), some (.d (.tup [.int sure.1, .int sure.2])), some (.d (.int y2)), none]) (Lf.s_asg (Lf.c_bV (Lf.ef1 (Lf.c_v rfl) fz_d (Lf.ef1 (Lf.c_cv (Lf.c_v rfl) (by rw [hy1])) fz_d Lf.ef0)) (Lf.f_comb hy2)) rfl) ?_
  obtain ⟨y3, hy3, hg⟩ := bnd hg
  obtain ⟨y4, hy4, hg⟩ := bnd hg
  refine ws (e1 := [some (.d (.int slips)), some (.d (.int wrong)), some (.d (eO eI looked)), some (.d (.tup [.int sure.1, .int sure.2])), some (.d (.int y2)), some (.d (.int (y2 - y4)))]) (Lf.s_asg (Lf.b_i (Lf.c_v rfl) (Lf.c_bV (Lf.ef1 (Lf.b_i (Lf.c_v rfl) (Lf.c_v rfl) rfl) fz_d (Lf.ef1 (Lf.c_cv (Lf.c_v rfl) (by rw [hy3])) fz_d Lf.ef0)) (Lf.f_comb hy4)) rfl) rfl) ?_
  obtain ⟨y5, hy5, hg⟩ := bnd hg
  obtain ⟨y6, hy6, hg⟩ := bnd hg
  have hv := Option.some.inj hg
  subst hv
  exact ws_ret (Lf.c_cmp (Lf.b_i (Lf.c_v rfl) (Lf.c_k (Lf.k_i (Lf.k_v rfl) rfl rfl)) hy5) fz_d (Lf.b_i (Lf.c_k (Lf.k_i (Lf.k_v rfl) rfl rfl)) (Lf.c_v rfl) hy6) fz_d rfl) ⟨rfl, rfl⟩
def g_is_least_looked (slips : Int) (wrong : Int) (sure : (Int × Int)) (looked : Option Int) : Option Bool :=
  if looked.isNone then
    (g_is_enough slips wrong slips sure).bind fun y1 =>
    some (!y1)
  else
    (looked).bind fun y2 =>
    (if (decide (y2 < (0 : Int))) then some true else (looked).bind fun y3 => (if (decide (slips < y3)) then some true else (g_is_enough_2 slips wrong looked sure).bind fun y4 => some (!y4)).bind fun y5 => some y5).bind fun y6 =>
    if y6 then
      some false
    else
      (if (decide ((looked : Option Int) = (some (0 : Int)))) then some true else (looked).bind fun y7 => (g_is_enough slips wrong (y7 - (1 : Int)) sure).bind fun y8 => some (!y8)).bind fun y9 =>
      some y9
theorem l_is_least_looked {slips : Int} {wrong : Int} {sure : (Int × Int)} {looked : Option Int} {vv : Bool} (kk : Nat) (hg : g_is_least_looked slips wrong sure looked = some vv) : rn tb (kk + 3) ("is_least_looked", none) [.d (.int slips), .d (.int wrong), .d (.tup [.int sure.1, .int sure.2]), .d (eO eI looked)] = some (.d (.bl vv), []) := by
  unfold g_is_least_looked at hg
  rw [r_is_least_looked]
  refine runW (v := vv) (Rt := (fun (vv : Bool) (m : M) (e : Ev.Env) => m = .d (.bl vv) ∧ takeO [] e = some [])) rfl ?_ (fun m e h => h)
  show WS _ (b_is_least_looked _ _ [some (.d (.int slips)), some (.d (.int wrong)), some (.d (.tup [.int sure.1, .int sure.2])), some (.d (eO eI looked))])
  refine ws_if (Lf.t_b (Lf.c_cmp (Lf.c_v rfl) fz_d (Lf.c_p rfl) fz_d (Lf.is_o (fun _ => by simp) looked))) (fun hb => ?_) (fun hb => ?_)
  · have hg := ite_t hb hg
    refine ws_assoc ?_
    obtain ⟨y1, hy1, hg⟩ := bnd hg
    have hv := Option.some.inj hg
    subst hv
    exact ws_ret (Lf.c_not (Lf.c_call (Lf.a1 (Lf.a_v (Lf.c_v rfl)) (Lf.a1 (Lf.a_v (Lf.c_v rfl)) (Lf.a1 (Lf.a_v (Lf.c_v rfl)) (Lf.a1 (Lf.a_v (Lf.c_v rfl)) Lf.a0)))) rfl (l_is_enough kk hy1) rfl)) ⟨rfl, rfl⟩
  · have hg := ite_f hb hg
    refine ws_skip ?_
    obtain ⟨y2, hy2, hg⟩ := bnd hg
    obtain ⟨y6, hy6, hg⟩ := bnd hg
    refine ws_if (Lf.t_orz (z := y6) (Lf.t_b (Lf.c_cmp (Lf.c_cv (Lf.c_v rfl) (by rw [hy2])) fz_d (Lf.c_p rfl) fz_d rfl)) (fun hb => by have hg := ite_f hb hy6; obtain ⟨y3, hy3, hg⟩ := bnd hg; obtain ⟨y5, hy5, hg⟩ := bnd hg; exact Lf.tcv (Lf.t_orz (z := y5) (Lf.t_b (Lf.c_cmp (Lf.c_cv (Lf.c_v rfl) (by rw [hy3])) fz_d (Lf.c_v rfl) fz_d rfl)) (fun hb => by have hg := ite_f hb hy5; obtain ⟨y4, hy4, hg⟩ := bnd hg; exact Lf.tcv (Lf.t_not (Lf.t_v (Lf.c_call (Lf.a1 (Lf.a_v (Lf.c_v rfl)) (Lf.a1 (Lf.a_v (Lf.c_v rfl)) (Lf.a1 (Lf.a_v (Lf.c_v rfl)) (Lf.a1 (Lf.a_v (Lf.c_v rfl)) Lf.a0)))) rfl (l_is_enough_2 kk hy4) rfl) fz_d rfl)) (Option.some.inj hg)) (fun hb => by have hg := ite_t hb hy5; cases hg; rfl)) (Option.some.inj hg)) (fun hb => by have hg := ite_t hb hy6; cases hg; rfl)) (fun hb => ?_) (fun hb => ?_)
    · have hg := ite_t hb hg
      refine ws_assoc ?_
      have hv := Option.some.inj hg
      subst hv
      exact ws_ret (Lf.c_p rfl) ⟨rfl, rfl⟩
    · have hg := ite_f hb hg
      refine ws_skip ?_
      obtain ⟨y9, hy9, hg⟩ := bnd hg
      have hv := Option.some.inj hg
      subst hv
      exact ws_ret (Lf.c_orz (z := y9) (Lf.c_cmp (Lf.c_v rfl) fz_d (Lf.c_p rfl) fz_d (Lf.eq_o Lf.peI (fun _ => by simp) (by decide) looked (some (0 : Int)))) (fun hb => by have hg := ite_f hb hy9; obtain ⟨y7, hy7, hg⟩ := bnd hg; obtain ⟨y8, hy8, hg⟩ := bnd hg; exact Lf.c_cvb (Lf.c_not (Lf.c_call (Lf.a1 (Lf.a_v (Lf.c_v rfl)) (Lf.a1 (Lf.a_v (Lf.c_v rfl)) (Lf.a1 (Lf.a_v (Lf.b_i (Lf.c_cv (Lf.c_v rfl) (by rw [hy7])) (Lf.c_p rfl) rfl)) (Lf.a1 (Lf.a_v (Lf.c_v rfl)) Lf.a0)))) rfl (l_is_enough kk hy8) rfl)) (Option.some.inj hg)) (fun hb => by have hg := ite_t hb hy9; cases hg; rfl)) ⟨rfl, rfl⟩
def g_least_looked (slips : Int) (wrong : Int) (sure : (Int × Int)) : Option (Option Int) :=
  (g_check_slips slips (0 : Int)).bind fun y1 =>
  (g_check_part wrong (1 : Int)).bind fun y2 =>
  (g_check_sure sure (2 : Int)).bind fun y3 =>
  (g_meet_part slips wrong (1 : Int)).bind fun y4 =>
  (g_looks_for slips wrong y3).bind fun y5 =>
  (g_is_least_looked slips wrong y3 y5).bind fun y6 =>
  (guardO y6).bind fun u7 =>
  some y5
theorem l_least_looked {slips : Int} {wrong : Int} {sure : (Int × Int)} {vv : (Option Int)} (kk : Nat) (hg : g_least_looked slips wrong sure = some vv) : rn tb (kk + 6) ("least_looked", none) [.d (.int slips), .d (.int wrong), .d (.tup [.int sure.1, .int sure.2])] = some (.d (eO eI vv), []) := by
  unfold g_least_looked at hg
  rw [r_least_looked]
  refine runW (v := vv) (Rt := (fun (vv : (Option Int)) (m : M) (e : Ev.Env) => m = .d (eO eI vv) ∧ takeO [] e = some [])) rfl ?_ (fun m e h => h)
  show WS _ (b_least_looked _ _ [some (.d (.int slips)), some (.d (.int wrong)), some (.d (.tup [.int sure.1, .int sure.2])), none, none])
  obtain ⟨y1, hy1, hg⟩ := bnd hg
  refine ws (e1 := [some (.d (.int slips)), some (.d (.int wrong)), some (.d (.tup [.int sure.1, .int sure.2])), none, none]) (Lf.s_drop (Lf.c_call (Lf.a1 (Lf.a_v (Lf.c_v rfl)) (Lf.a1 (Lf.a_v (Lf.c_p rfl)) Lf.a0)) rfl (l_check_slips kk hy1) rfl)) ?_
  obtain ⟨y2, hy2, hg⟩ := bnd hg
  refine ws (e1 := [some (.d (.int slips)), some (.d (.int wrong)), some (.d (.tup [.int sure.1, .int sure.2])), none, none]) (Lf.s_drop (Lf.c_call (Lf.a1 (Lf.a_v (Lf.c_v rfl)) (Lf.a1 (Lf.a_v (Lf.c_p rfl)) Lf.a0)) rfl (l_check_part kk hy2) rfl)) ?_
  obtain ⟨y3, hy3, hg⟩ := bnd hg
  refine ws (e1 := [some (.d (.int slips)), some (.d (.int wrong)), some (.d (.tup [.int sure.1, .int sure.2])), some (.d (.tup [.int y3.1, .int y3.2])), none]) (Lf.s_asg (Lf.c_call (Lf.a1 (Lf.a_v (Lf.c_v rfl)) (Lf.a1 (Lf.a_v (Lf.c_p rfl)) Lf.a0)) rfl (l_check_sure kk hy3) rfl) rfl) ?_
  obtain ⟨y4, hy4, hg⟩ := bnd hg
  refine ws (e1 := [some (.d (.int slips)), some (.d (.int wrong)), some (.d (.tup [.int sure.1, .int sure.2])), some (.d (.tup [.int y3.1, .int y3.2])), none]) (Lf.s_drop (Lf.c_call (Lf.a1 (Lf.a_v (Lf.c_v rfl)) (Lf.a1 (Lf.a_v (Lf.c_v rfl)) (Lf.a1 (Lf.a_v (Lf.c_p rfl)) Lf.a0))) rfl (l_meet_part (kk + 2) hy4) rfl)) ?_
  obtain ⟨y5, hy5, hg⟩ := bnd hg
  refine ws (e1 := [some (.d (.int slips)), some (.d (.int wrong)), some (.d (.tup [.int sure.1, .int sure.2])), some (.d (.tup [.int y3.1, .int y3.2])), some (.d (eO eI y5))]) (Lf.s_asg (Lf.c_call (Lf.a1 (Lf.a_v (Lf.c_v rfl)) (Lf.a1 (Lf.a_v (Lf.c_v rfl)) (Lf.a1 (Lf.a_v (Lf.c_v rfl)) Lf.a0))) rfl (l_looks_for (kk + 3) hy5) rfl) rfl) ?_
  obtain ⟨y6, hy6, hg⟩ := bnd hg
  obtain ⟨u7, hu7, hg⟩ := bnd hg
  refine ws (e1 := [some (.d (.int slips)), some (.d (.int wrong)), some (.d (.tup [.int sure.1, .int sure.2])), some (.d (.tup [.int y3.1, .int y3.2])), some (.d (eO eI y5))]) (Lf.s_ast (Lf.t_v (Lf.c_call (Lf.a1 (Lf.a_v (Lf.c_v rfl)) (Lf.a1 (Lf.a_v (Lf.c_v rfl)) (Lf.a1 (Lf.a_v (Lf.c_v rfl)) (Lf.a1 (Lf.a_v (Lf.c_v rfl)) Lf.a0)))) rfl (l_is_least_looked (kk + 2) hy6) rfl) fz_d rfl) (Lf.gd hu7)) ?_
  have hv := Option.some.inj hg
  subst hv
  exact ws_retV rfl rfl ⟨rfl, rfl⟩
def g_check_few (wrong : Int) (at_ : Int) : Option Int :=
  (g_need_integer wrong (0 : Int) (3 : Int) at_).bind fun y1 =>
  some y1
theorem l_check_few {wrong : Int} {at_ : Int} {vv : Int} (kk : Nat) (hg : g_check_few wrong at_ = some vv) : rn tb (kk + 5) ("check_few", none) [.d (.int wrong), .d (.int at_)] = some (.d (.int vv), []) := by
  unfold g_check_few at hg
  rw [r_check_few]
  refine runW (v := vv) (Rt := (fun (vv : Int) (m : M) (e : Ev.Env) => m = .d (.int vv) ∧ takeO [] e = some [])) rfl ?_ (fun m e h => h)
  show WS _ (b_check_few _ _ [some (.d (.int wrong)), some (.d (.int at_))])
  obtain ⟨y1, hy1, hg⟩ := bnd hg
  have hv := Option.some.inj hg
  subst hv
  exact ws_ret (Lf.c_call (Lf.a1 (Lf.a_v (Lf.c_v rfl)) (Lf.a1 (Lf.a_v (Lf.c_p rfl)) (Lf.a1 (Lf.a_v (Lf.c_k rfl)) (Lf.a1 (Lf.a_v (Lf.c_v rfl)) Lf.a0)))) rfl (l_need_integer kk hy1) rfl) ⟨rfl, rfl⟩
def g_check_size (size : Int) (at_ : Int) : Option Int :=
  (g_need_integer_n size (1 : Int) () at_).bind fun y1 =>
  some y1
theorem l_check_size {size : Int} {at_ : Int} {vv : Int} (kk : Nat) (hg : g_check_size size at_ = some vv) : rn tb (kk + 5) ("check_size", none) [.d (.int size), .d (.int at_)] = some (.d (.int vv), []) := by
  unfold g_check_size at hg
  rw [r_check_size]
  refine runW (v := vv) (Rt := (fun (vv : Int) (m : M) (e : Ev.Env) => m = .d (.int vv) ∧ takeO [] e = some [])) rfl ?_ (fun m e h => h)
  show WS _ (b_check_size _ _ [some (.d (.int size)), some (.d (.int at_))])
  obtain ⟨y1, hy1, hg⟩ := bnd hg
  have hv := Option.some.inj hg
  subst hv
  exact ws_ret (Lf.c_call (Lf.a1 (Lf.a_v (Lf.c_v rfl)) (Lf.a1 (Lf.a_v (Lf.c_p rfl)) (Lf.a1 (Lf.a_v (Lf.c_p rfl)) (Lf.a1 (Lf.a_v (Lf.c_v rfl)) Lf.a0)))) rfl (l_need_integer_n kk hy1) rfl) ⟨rfl, rfl⟩
def g_heap_sizes (slips : Int) (size : Int) : Option (List Int) :=
  (binI .FloorDiv slips size).bind fun y1 =>
  (rpL ([size] : List Int) y1).bind fun y2 =>
  (binI .Mult size (y2.length : Int)).bind fun y3 =>
  (if (decide ((0 : Int) < (slips - y3))) then
      (pushO y2 (slips - y3)).bind fun y4 =>
      some y4
    else
      some y2 : Option (List Int)).bind fun s5 =>
  some s5
theorem l_heap_sizes {slips : Int} {size : Int} {vv : (List Int)} (kk : Nat) (hg : g_heap_sizes slips size = some vv) : rn tb (kk + 2) ("heap_sizes", none) [.d (.int slips), .d (.int size)] = some (.lst (vv.map (mD eI)), []) := by
  unfold g_heap_sizes at hg
  rw [r_heap_sizes]
  refine runW (v := vv) (Rt := (fun (vv : (List Int)) (m : M) (e : Ev.Env) => m = .lst (vv.map (mD eI)) ∧ takeO [] e = some [])) rfl ?_ (fun m e h => h)
  show WS _ (b_heap_sizes _ _ [some (.d (.int slips)), some (.d (.int size)), none, none])
  obtain ⟨y1, hy1, hg⟩ := bnd hg
  obtain ⟨y2, hy2, hg⟩ := bnd hg
  refine ws (e1 := [some (.d (.int slips)), some (.d (.int size)), some (.lst (y2.map (mD eI))), none]) (Lf.s_asg (Lf.b_x (Lf.c_lst (Lf.em1 (Lf.c_v rfl) Lf.em0) (Nat.le_of_ble_eq_true rfl)) (fz_l (fzs1 fz_d fzs0)) (Lf.b_i (Lf.c_v rfl) (Lf.c_v rfl) hy1) fz_d (Lf.v_repL (f := eI) (xs := [size]) hy2)) rfl) ?_
  obtain ⟨y3, hy3, hg⟩ := bnd hg
  refine ws (e1 := [some (.d (.int slips)), some (.d (.int size)), some (.lst (y2.map (mD eI))), some (.d (.int (slips - y3)))]) (Lf.s_asg (Lf.b_i (Lf.c_v rfl) (Lf.b_i (Lf.c_v rfl) (Lf.c_p (Lf.p_lena (Lf.k_ol rfl) (Lf.at0 rfl) Lf.len_m)) hy3) rfl) rfl) ?_
  obtain ⟨s5, hs5, hg⟩ := bnd hg
  refine Lf.ws_ifJ (s' := s5) (fun (ss : (List Int)) ee => ee = [some (.d (.int slips)), some (.d (.int size)), some (.lst (ss.map (mD eI))), some (.d (.int (slips - y3)))]) (Lf.t_b (Lf.c_cmp (Lf.c_v rfl) fz_d (Lf.c_p rfl) fz_d rfl)) (fun hb => ?_) (fun hb => ?_) (fun ee he => ?_)
  · have hg := ite_t hb hs5
    obtain ⟨y4, hy4, hg⟩ := bnd hg
    refine ws (e1 := [some (.d (.int slips)), some (.d (.int size)), some (.lst (y4.map (mD eI))), some (.d (.int (slips - y3)))]) (Lf.s_app (mf := (mD eI)) (v := (slips - y3)) (xs := y2) rfl (Lf.c_v rfl) rfl hy4 rfl) ?_
    have hv := Option.some.inj hg
    subst hv
    exact ws_end rfl
  · have hg := ite_f hb hs5
    have hv := Option.some.inj hg
    subst hv
    exact ws_end rfl
  subst he
  have hv := Option.some.inj hg
  subst hv
  exact ws_retV rfl rfl ⟨rfl, rfl⟩
def g_most_looks (slips : Int) (wrong : Int) (size : Int) : Option Int :=
  (g_heap_sizes slips size).bind fun y1 =>
  some ((y1.length : Int) + (cut y1 none (some wrong)).sum)
theorem l_most_looks {slips : Int} {wrong : Int} {size : Int} {vv : Int} (kk : Nat) (hg : g_most_looks slips wrong size = some vv) : rn tb (kk + 3) ("most_looks", none) [.d (.int slips), .d (.int wrong), .d (.int size)] = some (.d (.int vv), []) := by
  unfold g_most_looks at hg
  rw [r_most_looks]
  refine runW (v := vv) (Rt := (fun (vv : Int) (m : M) (e : Ev.Env) => m = .d (.int vv) ∧ takeO [] e = some [])) rfl ?_ (fun m e h => h)
  show WS _ (b_most_looks _ _ [some (.d (.int slips)), some (.d (.int wrong)), some (.d (.int size)), none])
  obtain ⟨y1, hy1, hg⟩ := bnd hg
  refine ws (e1 := [some (.d (.int slips)), some (.d (.int wrong)), some (.d (.int size)), some (.lst (y1.map (mD eI)))]) (Lf.s_asg (Lf.c_call (Lf.a1 (Lf.a_v (Lf.c_v rfl)) (Lf.a1 (Lf.a_v (Lf.c_v rfl)) Lf.a0)) rfl (l_heap_sizes kk hy1) rfl) rfl) ?_
  have hv := Option.some.inj hg
  subst hv
  exact ws_ret (Lf.b_i (Lf.c_p (Lf.p_lena (Lf.k_ol rfl) (Lf.at0 rfl) Lf.len_m)) (Lf.c_bV (Lf.ef1 (Lf.c_sl (Lf.c_w rfl Lf.fz_own rfl) fz_d Lf.o_n (Lf.o_s (Lf.c_v rfl)) Lf.sl_l) Lf.fz_own Lf.ef0) (Lf.f_m1 (Lf.f_sum (xs := (cut y1 none (some wrong))) rfl))) rfl) ⟨rfl, rfl⟩
def g_better_of (one : Unit) (other : Int) : Option Int :=
  some other
theorem l_better_of {one : Unit} {other : Int} {vv : Int} (kk : Nat) (hg : g_better_of one other = some vv) : rn tb (kk + 2) ("better_of", none) [.d (.non), .d (.int other)] = some (.d (.int vv), []) := by
  unfold g_better_of at hg
  rw [r_better_of]
  refine runW (v := vv) (Rt := (fun (vv : Int) (m : M) (e : Ev.Env) => m = .d (.int vv) ∧ takeO [] e = some [])) rfl ?_ (fun m e h => h)
  show WS _ (b_better_of _ _ [some (.d (.non)), some (.d (.int other))])
  refine ws_if (Lf.t_b (Lf.c_cmp (Lf.c_v rfl) fz_d (Lf.c_p rfl) fz_d rfl)) (fun hb => ?_) (fun hb => by cases hb)
  refine ws_assoc ?_
  have hv := Option.some.inj hg
  subst hv
  exact ws_retV rfl rfl ⟨rfl, rfl⟩
def g_better_of_2 (one : Option Int) (other : Int) : Option Int :=
  if one.isNone then
    some other
  else
    (one).bind fun y1 =>
    some (max y1 other)
theorem l_better_of_2 {one : Option Int} {other : Int} {vv : Int} (kk : Nat) (hg : g_better_of_2 one other = some vv) : rn tb (kk + 2) ("better_of", none) [.d (eO eI one), .d (.int other)] = some (.d (.int vv), []) := by
  unfold g_better_of_2 at hg
  rw [r_better_of]
  refine runW (v := vv) (Rt := (fun (vv : Int) (m : M) (e : Ev.Env) => m = .d (.int vv) ∧ takeO [] e = some [])) rfl ?_ (fun m e h => h)
  show WS _ (b_better_of _ _ [some (.d (eO eI one)), some (.d (.int other))])
  refine ws_if (Lf.t_b (Lf.c_cmp (Lf.c_v rfl) fz_d (Lf.c_p rfl) fz_d (Lf.is_o (fun _ => by simp) one))) (fun hb => ?_) (fun hb => ?_)
  · have hg := ite_t hb hg
    refine ws_assoc ?_
    have hv := Option.some.inj hg
    subst hv
    exact ws_retV rfl rfl ⟨rfl, rfl⟩
  · have hg := ite_f hb hg
    refine ws_skip ?_
    refine ws_if (Lf.t_b (Lf.c_cmp (Lf.c_v rfl) fz_d (Lf.c_p rfl) fz_d rfl)) (fun hb => by cases hb) (fun hb => ?_)
    refine ws_skip ?_
    obtain ⟨y1, hy1, hg⟩ := bnd hg
    have hv := Option.some.inj hg
    subst hv
    exact ws_ret (Lf.c_bV (Lf.ef1 (Lf.c_cv (Lf.c_v rfl) (by rw [hy1])) fz_d (Lf.ef1 (Lf.c_v rfl) fz_d Lf.ef0)) Lf.f_max2) ⟨rfl, rfl⟩
def g_behind_heap (rows : List (Option Int)) (many : Int) : Option (List (Option Int)) :=
  (rngO 0 (rows.length : Int)).bind fun y1 =>
  (foldO (fun (s2 : (List (Option Int))) (x3 : Int) => (
      (rngO 0 ((min x3 many) + (1 : Int))).bind fun y8 =>
      (foldO (fun (s9 : (Option Int)) (x10 : Int) => (
          (ixO rows (x3 - x10)).bind fun y13 =>
          if y13.isSome then
            (y13).bind fun y14 =>
            (g_better_of_2 s9 ((y14 + (1 : Int)) + (if (decide ((0 : Int) < x10)) then many else (0 : Int)))).bind fun y15 =>
            some (some y15)
          else
            some s9 : Option (Option Int))) y8 none).bind fun s16 =>
      (pushO s2 s16).bind fun y17 =>
      some y17 : Option (List (Option Int)))) y1 []).bind fun s18 =>
  some s18
theorem l_behind_heap {rows : List (Option Int)} {many : Int} {vv : (List (Option Int))} (kk : Nat) (hg : g_behind_heap rows many = some vv) : rn tb (kk + 3) ("behind_heap", none) [.d (.lst (rows.map (eO eI))), .d (.int many)] = some (.lst (vv.map (mD (eO eI))), []) := by
  unfold g_behind_heap at hg
  rw [r_behind_heap]
  refine runW (v := vv) (Rt := (fun (vv : (List (Option Int))) (m : M) (e : Ev.Env) => m = .lst (vv.map (mD (eO eI))) ∧ takeO [] e = some [])) rfl ?_ (fun m e h => h)
  show WS _ (b_behind_heap _ _ [some (.d (.lst (rows.map (eO eI)))), some (.d (.int many)), none, none, none, none, none])
  refine ws (e1 := [some (.d (.lst (rows.map (eO eI)))), some (.d (.int many)), some (.lst (([] : List Int).map (mD eI))), none, none, none, none]) (Lf.s_asg (Lf.c_lst Lf.em0 (Nat.le_of_ble_eq_true rfl)) rfl) ?_
  obtain ⟨y1, hy1, hg⟩ := bnd hg
  obtain ⟨s18, hs18, hg⟩ := bnd hg
  refine Lf.ws_forF (enc := eI) (xs := y1) (fun (ss : (List (Option Int))) ee => ∃ f4_ f5_ f6_ f7_, Lf.Fl0 f4_ ∧ Lf.Fl0 f5_ ∧ Lf.Fl0 f6_ ∧ Lf.Fl0 f7_ ∧ ee = [some (.d (.lst (rows.map (eO eI)))), some (.d (.int many)), some (.lst (ss.map (mD (eO eI)))), f4_, f5_, f6_, f7_]) (Lf.i_r1 (Lf.ef1 (Lf.c_p (Lf.p_len (Lf.k_v rfl) Lf.len_l)) fz_d Lf.ef0) hy1) ⟨_, _, _, _, Lf.fl_n, Lf.fl_n, Lf.fl_n, Lf.fl_n, rfl⟩ hs18 ?_ ?_
  · intro s2 x3 ee vv he hg
    obtain ⟨f4_, f5_, f6_, f7_, hf4_, hf5_, hf6_, hf7_, rfl⟩ := he
    refine ⟨_, (Lf.g_n rfl), ?_⟩
    refine ws (e1 := [some (.d (.lst (rows.map (eO eI)))), some (.d (.int many)), some (.lst (s2.map (mD (eO eI)))), some (.d (.int x3)), some (.d (.non)), f6_, f7_]) (Lf.s_asg (Lf.c_p rfl) rfl) ?_
    obtain ⟨y8, hy8, hg⟩ := bnd hg
    obtain ⟨s16, hs16, hg⟩ := bnd hg
    refine Lf.ws_forF (enc := eI) (xs := y8) (fun (ss : (Option Int)) ee => ∃ f11_ f12_, Lf.Fl0 f11_ ∧ Lf.Fl0 f12_ ∧ ee = [some (.d (.lst (rows.map (eO eI)))), some (.d (.int many)), some (.lst (s2.map (mD (eO eI)))), some (.d (.int x3)), some (.d (eO eI ss)), f11_, f12_]) (Lf.i_r1 (Lf.ef1 (Lf.b_i (Lf.c_bV (Lf.ef1 (Lf.c_v rfl) fz_d (Lf.ef1 (Lf.c_v rfl) fz_d Lf.ef0)) Lf.f_min2) (Lf.c_p rfl) rfl) fz_d Lf.ef0) hy8) ⟨_, _, hf6_, hf7_, rfl⟩ hs16 ?_ ?_
    · intro s9 x10 ee vv he hg
      obtain ⟨f11_, f12_, hf11_, hf12_, rfl⟩ := he
      refine ⟨_, (Lf.g_n rfl), ?_⟩
      obtain ⟨y13, hy13, hg⟩ := bnd hg
      refine ws (e1 := [some (.d (.lst (rows.map (eO eI)))), some (.d (.int many)), some (.lst (s2.map (mD (eO eI)))), some (.d (.int x3)), some (.d (eO eI s9)), some (.d (.int x10)), some (.d (eO eI y13))]) (Lf.s_asg (Lf.c_k (Lf.k_i (Lf.k_v rfl) (Lf.p_bin (Lf.p_k (Lf.k_v rfl)) (Lf.p_k (Lf.k_v rfl)) rfl) (Lf.atI_map hy13))) rfl) ?_
      refine ws_if (Lf.t_b (Lf.c_cmp (Lf.c_v rfl) fz_d (Lf.c_p rfl) fz_d (Lf.isn_o (fun _ => by simp) y13))) (fun hb => ?_) (fun hb => ?_)
      · have hg := ite_t hb hg
        refine ws_assoc ?_
        obtain ⟨y14, hy14, hg⟩ := bnd hg
        obtain ⟨y15, hy15, hg⟩ := bnd hg
        refine ws (e1 := [some (.d (.lst (rows.map (eO eI)))), some (.d (.int many)), some (.lst (s2.map (mD (eO eI)))), some (.d (.int x3)), some (.d (.int y15)), some (.d (.int x10)), some (.d (eO eI y13))]) (Lf.s_asg (Lf.c_call (Lf.a1 (Lf.a_v (Lf.c_v rfl)) (Lf.a1 (Lf.a_v (Lf.b_i (Lf.b_i (Lf.c_cv (Lf.c_v rfl) (by rw [hy14])) (Lf.c_p rfl) rfl) (Lf.c_ifv (mf := (mD eI)) (v1 := many) (v2 := (0 : Int)) (Lf.t_b (Lf.c_cmp (Lf.c_v rfl) fz_d (Lf.c_p rfl) fz_d rfl)) (fun hb => (Lf.c_v rfl)) (fun hb => (Lf.c_p rfl))) rfl)) Lf.a0)) rfl (l_better_of_2 kk hy15) rfl) rfl) ?_
        refine ws_skip ?_
        have hv := Option.some.inj hg
        subst hv
        exact ws_end ⟨_, _, Lf.fl_d, Lf.fl_d, rfl⟩
      · have hg := ite_f hb hg
        refine ws_skip ?_
        have hv := Option.some.inj hg
        subst hv
        exact ws_end ⟨_, _, Lf.fl_d, Lf.fl_d, rfl⟩
    intro ee he
    obtain ⟨f11_, f12_, hf11_, hf12_, rfl⟩ := he
    obtain ⟨y17, hy17, hg⟩ := bnd hg
    refine ws (e1 := [some (.d (.lst (rows.map (eO eI)))), some (.d (.int many)), some (.lst (y17.map (mD (eO eI)))), some (.d (.int x3)), some (.d (eO eI s16)), f11_, f12_]) (Lf.s_app (mf := (mD (eO eI))) (v := s16) (xs := s2) rfl (Lf.c_v rfl) rfl hy17 rfl) ?_
    have hv := Option.some.inj hg
    subst hv
    exact ws_end ⟨_, _, _, _, Lf.fl_d, Lf.fl_d, hf11_, hf12_, rfl⟩
  intro ee he
  obtain ⟨f4_, f5_, f6_, f7_, hf4_, hf5_, hf6_, hf7_, rfl⟩ := he
  have hv := Option.some.inj hg
  subst hv
  exact ws_retV rfl rfl ⟨rfl, rfl⟩
def g_is_most_looks (slips : Int) (wrong : Int) (size : Int) (looks : Int) : Option Bool :=
  (rpL ([none] : List (Option Int)) wrong).bind fun y1 =>
  (catO ([(some (0 : Int))] : List (Option Int)) y1).bind fun y2 =>
  (whileO (fun (s3 : ((List (Option Int)) × Int)) => ( some (decide ((0 : Int) < s3.2)) : Option Bool)) (fun (s3 : ((List (Option Int)) × Int)) => (
      (g_behind_heap s3.1 (min size s3.2)).bind fun y5 =>
      some (.nx (y5, (s3.2 - (min size s3.2)))) : Option (Fl ((List (Option Int)) × Int) ((List (Option Int)) × Int) Bool))) 100000 (y2, slips)).bind fun z7 => match z7 with
  | .rt v => none
  | .nx s6 =>
    (ixO s6.1 wrong).bind fun y8 =>
    some (decide ((y8 : Option Int) = (some looks)))
theorem l_is_most_looks {slips : Int} {wrong : Int} {size : Int} {looks : Int} {vv : Bool} (kk : Nat) (hg : g_is_most_looks slips wrong size looks = some vv) : rn tb (kk + 4) ("is_most_looks", none) [.d (.int slips), .d (.int wrong), .d (.int size), .d (.int looks)] = some (.d (.bl vv), []) := by
  unfold g_is_most_looks at hg
  rw [r_is_most_looks]
  refine runW (v := vv) (Rt := (fun (vv : Bool) (m : M) (e : Ev.Env) => m = .d (.bl vv) ∧ takeO [] e = some [])) rfl ?_ (fun m e h => h)
  show WS _ (b_is_most_looks _ _ [some (.d (.int slips)), some (.d (.int wrong)), some (.d (.int size)), some (.d (.int looks)), none, none, none])
  obtain ⟨y1, hy1, hg⟩ := bnd hg
  obtain ⟨y2, hy2, hg⟩ := bnd hg
  refine ws (e1 := [some (.d (.int slips)), some (.d (.int wrong)), some (.d (.int size)), some (.d (.int looks)), some (.lst (y2.map (mD (eO eI)))), none, none]) (Lf.s_asg (Lf.b_x (Lf.c_lst (Lf.em1 (Lf.c_p rfl) Lf.em0) (Nat.le_of_ble_eq_true rfl)) (fz_l (fzs1 fz_d fzs0)) (Lf.b_x (Lf.c_lst (Lf.em1 (Lf.c_p rfl) Lf.em0) (Nat.le_of_ble_eq_true rfl)) (fz_l (fzs1 fz_d fzs0)) (Lf.c_v rfl) fz_d (Lf.v_repL (f := (eO eI)) (xs := [none]) hy1)) Lf.fz_own (Lf.v_catL (f := (eO eI)) (xs := [(some (0 : Int))]) (ys := y1) hy2)) rfl) ?_
  refine ws (e1 := [some (.d (.int slips)), some (.d (.int wrong)), some (.d (.int size)), some (.d (.int looks)), some (.lst (y2.map (mD (eO eI)))), some (.d (.int slips)), none]) (Lf.s_asg (Lf.c_v rfl) rfl) ?_
  obtain ⟨z7, hz7, hg⟩ := bnd hg
  refine Lf.ws_whR (z := z7) (fun (ss : ((List (Option Int)) × Int)) ee => ∃ f4_, Lf.Fl0 f4_ ∧ ee = [some (.d (.int slips)), some (.d (.int wrong)), some (.d (.int size)), some (.d (.int looks)), some (.lst (ss.1.map (mD (eO eI)))), some (.d (.int ss.2)), f4_]) (fun (vv : Bool) (m : M) (e : Ev.Env) => m = .d (.bl vv) ∧ takeO [] e = some []) ⟨_, Lf.fl_n, rfl⟩ hz7 ?_ ?_ (fun v m ee hq hr => by subst hq; cases hg)
  · intro s3 ee c he hg
    obtain ⟨f4_, hf4_, rfl⟩ := he
    have hv := Option.some.inj hg
    subst hv
    refine ⟨_, (Lf.t_b (Lf.c_cmp (Lf.c_v rfl) fz_d (Lf.c_p rfl) fz_d rfl)), fun _ => ⟨_, hf4_, rfl⟩, fun hb vv hg => ?_⟩
    refine ws (e1 := [some (.d (.int slips)), some (.d (.int wrong)), some (.d (.int size)), some (.d (.int looks)), some (.lst (s3.1.map (mD (eO eI)))), some (.d (.int s3.2)), some (.d (.int (min size s3.2)))]) (Lf.s_asg (Lf.c_bV (Lf.ef1 (Lf.c_v rfl) fz_d (Lf.ef1 (Lf.c_v rfl) fz_d Lf.ef0)) Lf.f_min2) rfl) ?_
    obtain ⟨y5, hy5, hg⟩ := bnd hg
    refine ws (e1 := [some (.d (.int slips)), some (.d (.int wrong)), some (.d (.int size)), some (.d (.int looks)), some (.lst (y5.map (mD (eO eI)))), some (.d (.int s3.2)), some (.d (.int (min size s3.2)))]) (Lf.s_asg (Lf.c_call (Lf.a1 (Lf.a_v (Lf.c_w rfl Lf.fz_own rfl)) (Lf.a1 (Lf.a_v (Lf.c_v rfl)) Lf.a0)) rfl (l_behind_heap kk hy5) rfl) rfl) ?_
    refine ws (e1 := [some (.d (.int slips)), some (.d (.int wrong)), some (.d (.int size)), some (.d (.int looks)), some (.lst (y5.map (mD (eO eI)))), some (.d (.int (s3.2 - (min size s3.2)))), some (.d (.int (min size s3.2)))]) (Lf.s_asg (Lf.b_i (Lf.c_v rfl) (Lf.c_v rfl) rfl) rfl) ?_
    have hv := Option.some.inj hg
    subst hv
    exact ws_end ⟨_, Lf.fl_d, rfl⟩
  intro s6 ee hq he
  subst hq
  obtain ⟨f4_, hf4_, rfl⟩ := he
  try dsimp only at hg
  obtain ⟨y8, hy8, hg⟩ := bnd hg
  have hv := Option.some.inj hg
  subst hv
  exact ws_ret (Lf.c_cmp (Lf.c_k (Lf.k_io (Lf.k_ol rfl) (Lf.at0 rfl) (Lf.p_k (Lf.k_v rfl)) (Lf.atI_map hy8))) fz_d (Lf.c_v rfl) fz_d (Lf.eq_o Lf.peI (fun _ => by simp) (by decide) y8 (some looks))) ⟨rfl, rfl⟩
def g_pooled (slips : Int) (wrong : Int) (size : Int) : Option Int :=
  (g_check_slips slips (0 : Int)).bind fun y1 =>
  (g_check_few wrong (1 : Int)).bind fun y2 =>
  (g_check_size size (2 : Int)).bind fun y3 =>
  (g_meet_part slips wrong (1 : Int)).bind fun y4 =>
  (g_meet_part slips size (2 : Int)).bind fun y5 =>
  (g_most_looks slips wrong size).bind fun y6 =>
  (g_is_most_looks slips wrong size y6).bind fun y7 =>
  (guardO y7).bind fun u8 =>
  some y6
theorem l_pooled {slips : Int} {wrong : Int} {size : Int} {vv : Int} (kk : Nat) (hg : g_pooled slips wrong size = some vv) : rn tb (kk + 6) ("pooled", none) [.d (.int slips), .d (.int wrong), .d (.int size)] = some (.d (.int vv), []) := by
  unfold g_pooled at hg
  rw [r_pooled]
  refine runW (v := vv) (Rt := (fun (vv : Int) (m : M) (e : Ev.Env) => m = .d (.int vv) ∧ takeO [] e = some [])) rfl ?_ (fun m e h => h)
  show WS _ (b_pooled _ _ [some (.d (.int slips)), some (.d (.int wrong)), some (.d (.int size)), none])
  obtain ⟨y1, hy1, hg⟩ := bnd hg
  refine ws (e1 := [some (.d (.int slips)), some (.d (.int wrong)), some (.d (.int size)), none]) (Lf.s_drop (Lf.c_call (Lf.a1 (Lf.a_v (Lf.c_v rfl)) (Lf.a1 (Lf.a_v (Lf.c_p rfl)) Lf.a0)) rfl (l_check_slips kk hy1) rfl)) ?_
  obtain ⟨y2, hy2, hg⟩ := bnd hg
  refine ws (e1 := [some (.d (.int slips)), some (.d (.int wrong)), some (.d (.int size)), none]) (Lf.s_drop (Lf.c_call (Lf.a1 (Lf.a_v (Lf.c_v rfl)) (Lf.a1 (Lf.a_v (Lf.c_p rfl)) Lf.a0)) rfl (l_check_few kk hy2) rfl)) ?_
  obtain ⟨y3, hy3, hg⟩ := bnd hg
  refine ws (e1 := [some (.d (.int slips)), some (.d (.int wrong)), some (.d (.int size)), none]) (Lf.s_drop (Lf.c_call (Lf.a1 (Lf.a_v (Lf.c_v rfl)) (Lf.a1 (Lf.a_v (Lf.c_p rfl)) Lf.a0)) rfl (l_check_size kk hy3) rfl)) ?_
  obtain ⟨y4, hy4, hg⟩ := bnd hg
  refine ws (e1 := [some (.d (.int slips)), some (.d (.int wrong)), some (.d (.int size)), none]) (Lf.s_drop (Lf.c_call (Lf.a1 (Lf.a_v (Lf.c_v rfl)) (Lf.a1 (Lf.a_v (Lf.c_v rfl)) (Lf.a1 (Lf.a_v (Lf.c_p rfl)) Lf.a0))) rfl (l_meet_part (kk + 2) hy4) rfl)) ?_
  obtain ⟨y5, hy5, hg⟩ := bnd hg
  refine ws (e1 := [some (.d (.int slips)), some (.d (.int wrong)), some (.d (.int size)), none]) (Lf.s_drop (Lf.c_call (Lf.a1 (Lf.a_v (Lf.c_v rfl)) (Lf.a1 (Lf.a_v (Lf.c_v rfl)) (Lf.a1 (Lf.a_v (Lf.c_p rfl)) Lf.a0))) rfl (l_meet_part (kk + 2) hy5) rfl)) ?_
  obtain ⟨y6, hy6, hg⟩ := bnd hg
  refine ws (e1 := [some (.d (.int slips)), some (.d (.int wrong)), some (.d (.int size)), some (.d (.int y6))]) (Lf.s_asg (Lf.c_call (Lf.a1 (Lf.a_v (Lf.c_v rfl)) (Lf.a1 (Lf.a_v (Lf.c_v rfl)) (Lf.a1 (Lf.a_v (Lf.c_v rfl)) Lf.a0))) rfl (l_most_looks (kk + 2) hy6) rfl) rfl) ?_
  obtain ⟨y7, hy7, hg⟩ := bnd hg
  obtain ⟨u8, hu8, hg⟩ := bnd hg
  refine ws (e1 := [some (.d (.int slips)), some (.d (.int wrong)), some (.d (.int size)), some (.d (.int y6))]) (Lf.s_ast (Lf.t_v (Lf.c_call (Lf.a1 (Lf.a_v (Lf.c_v rfl)) (Lf.a1 (Lf.a_v (Lf.c_v rfl)) (Lf.a1 (Lf.a_v (Lf.c_v rfl)) (Lf.a1 (Lf.a_v (Lf.c_v rfl)) Lf.a0)))) rfl (l_is_most_looks (kk + 1) hy7) rfl) fz_d rfl) (Lf.gd hu8)) ?_
  have hv := Option.some.inj hg
  subst hv
  exact ws_retV rfl rfl ⟨rfl, rfl⟩
def g_law (script : List Int) : Option Bool :=
  (g__law_numbers script).bind fun y1 =>
  (g__law_take y1 [(0 : Int)] (9 : Int)).bind fun y2 =>
  (g__law_take y1 y2.2 (((1 : Int) + y2.1) + (1 : Int))).bind fun y3 =>
  (g__law_figure_li_wi y1 y3.2 ((1 : Int) + y2.1)).bind fun y4 =>
  (rngO 0 ((1 : Int) + y2.1)).bind fun y5 =>
  (mapG y5 fun (x6 : Int) => x6).bind fun y7 =>
  (g__law_sets y7).bind fun y8 =>
  (rngO 0 (((1 : Int) + y2.1) + (1 : Int))).bind fun y10 =>
  (forO (fun (s11 : (List (List Int))) (x12 : Int) => (
      (filG s11 (fun (x18 : List Int) => (decide ((x18.length : Int) = x12))) fun (x18 : List Int) => x18).bind fun y19 =>
      (mapO y19 fun (x20 : List Int) => ((filG x20 (fun (x21 : Int) => (decide (x21 ∈ (cut y4.1 none (some y3.1))))) fun (x21 : Int) => x21).bind fun y22 => some (y22.length : Int) : Option Int)).bind fun y23 =>
      (g_chance_found ((1 : Int) + y2.1) y3.1 x12).bind fun y24 =>
      (filG y23 (fun (x25 : Int) => (decide ((0 : Int) < x25))) fun (x25 : Int) => x25).bind fun y26 =>
      (g__law_red_2 (y26.length : Int) (y19.length : Int)).bind fun y27 =>
      (if (!(decide ((y24 : (Int × Int)) = y27))) then some true else (g_mean_found ((1 : Int) + y2.1) y3.1 x12).bind fun y28 => (g__law_red_2 y23.sum (y19.length : Int)).bind fun y29 => some (!(decide ((y28 : (Int × Int)) = y29)))).bind fun y30 =>
      if y30 then
        some (.rt false)
      else
        (rngO 0 (((1 : Int) + y2.1) + (1 : Int))).bind fun y31 =>
        (mapO y31 fun (x32 : Int) => ((filG y23 (fun (x33 : Int) => (decide (x33 = x32))) fun (x33 : Int) => x33).bind fun y34 => some (y34.length : Int) : Option Int)).bind fun y35 =>
        (g_most_likely_found ((1 : Int) + y2.1) y3.1 x12).bind fun y36 =>
        (maxO y35).bind fun y37 =>
        (idxO y37 y35).bind fun y38 =>
        if (!(decide (y36 = y38))) then
          some (.rt false)
        else
          some (.nx s11) : Option (Fl (List (List Int)) (List (List Int)) Bool))) y10 y8).bind fun z40 => match z40 with
  | .rt v => some v
  | .nx s39 =>
    (rngO 0 (((1 : Int) + y2.1) + (1 : Int))).bind fun y41 =>
    (forO (fun (s42 : Unit) (x43 : Int) => (
        (g__law_red_2 x43 ((1 : Int) + y2.1)).bind fun y47 =>
        (rngO 0 (((1 : Int) + y2.1) + (1 : Int))).bind fun y48 =>
        (compO y48 fun (x49 : Int) => ((g_chance_found ((1 : Int) + y2.1) y3.1 x49).bind fun y50 => (g__law_less y50 y47).bind fun y51 => if (!y51) then  some (some x49) else some none : Option (Option Int))).bind fun y52 =>
        (g_least_looked ((1 : Int) + y2.1) y3.1 y47).bind fun y53 =>
        ((if (decide ((0 : Int) < (y52.length : Int))) then (ixO y52 (0 : Int)).bind fun y54 => some (some y54) else  some none : Option ((Option Int)))).bind fun y55 =>
        if (!(decide ((y53 : Option Int) = y55))) then
          some (.rt false)
        else
          some (.nx ()) : Option (Fl Unit Unit Bool))) y41 ()).bind fun z57 => match z57 with
    | .rt v => some v
    | .nx s56 =>
      (rngO (1 : Int) (((1 : Int) + y2.1) + (1 : Int))).bind fun y58 =>
      (forO (fun (s59 : (List (List Int))) (x60 : Int) => (
          (stpO (0 : Int) ((1 : Int) + y2.1) x60).bind fun y68 =>
          (foldO (fun (s69 : (List (List Int))) (x70 : Int) => (
              (rngO x70 (min ((1 : Int) + y2.1) (x70 + x60))).bind fun y72 =>
              (mapG y72 fun (x73 : Int) => x73).bind fun y74 =>
              (pushO s69 y74).bind fun y75 =>
              some y75 : Option (List (List Int)))) y68 []).bind fun s76 =>
          (foldO (fun (s77 : ((List (List Int)) × Int)) (x78 : List Int) => (
              if (decide ((x78.length : Int) = (min y3.1 (3 : Int)))) then
                (compO s77.1 fun (x82 : List Int) => ((filG x82 (fun (x83 : Int) => (decide (x83 ∈ x78))) fun (x83 : Int) => x83).bind fun y84 => if (decide ((0 : Int) < (y84.length : Int))) then  some (some (x82.length : Int)) else some none : Option (Option Int))).bind fun y85 =>
                some (s77.1, (max s77.2 ((s77.1.length : Int) + y85.sum)))
              else
                some (s77.1, s77.2) : Option ((List (List Int)) × Int))) s59 (s76, (0 : Int))).bind fun s86 =>
          (g_pooled ((1 : Int) + y2.1) (min y3.1 (3 : Int)) x60).bind fun y87 =>
          if (!(decide (y87 = s86.2))) then
            some (.rt false)
          else
            some (.nx s59) : Option (Fl (List (List Int)) (List (List Int)) Bool))) y58 s39).bind fun z89 => match z89 with
      | .rt v => some v
      | .nx s88 =>
        some true
theorem l_law {script : List Int} {vv : Bool} (kk : Nat) (hg : g_law script = some vv) : rn tb (kk + 8) ("law", none) [.d (.frl (script.map eI))] = some (.d (.bl vv), []) := by
  unfold g_law at hg
  rw [r_law]
  refine runW (v := vv) (Rt := (fun (vv : Bool) (m : M) (e : Ev.Env) => m = .d (.bl vv) ∧ takeO [] e = some [])) rfl ?_ (fun m e h => h)
  show WS _ (b_law _ _ [some (.d (.frl (script.map eI))), none, none, none, none, none, none, none, none, none, none, none, none, none, none, none, none, none, none, none, none, none, none, none])
  obtain ⟨y1, hy1, hg⟩ := bnd hg
  refine ws (e1 := [some (.d (.frl (script.map eI))), some (.lst (y1.map (mD eI))), none, none, none, none, none, none, none, none, none, none, none, none, none, none, none, none, none, none, none, none, none, none]) (Lf.s_asg (Lf.c_call (Lf.a1 (Lf.a_v (Lf.c_v rfl)) Lf.a0) rfl (l__law_numbers (kk + 5) hy1) rfl) rfl) ?_
  refine ws (e1 := [some (.d (.frl (script.map eI))), some (.lst (y1.map (mD eI))), some (.lst ([(0 : Int)].map (mD eI))), none, none, none, none, none, none, none, none, none, none, none, none, none, none, none, none, none, none, none, none, none]) (Lf.s_asg (Lf.c_lst (Lf.em1 (Lf.c_p rfl) Lf.em0) (Nat.le_of_ble_eq_true rfl)) rfl) ?_
  obtain ⟨y2, hy2, hg⟩ := bnd hg
  refine ws (e1 := [some (.d (.frl (script.map eI))), some (.d (.lst (y1.map eI))), some (.lst (y2.2.map (mD eI))), some (.d (.int ((1 : Int) + y2.1))), none, none, none, none, none, none, none, none, none, none, none, none, none, none, none, none, none, none, none, none]) (Lf.s_asg (Lf.b_i (Lf.c_p rfl) (Lf.c_call (Lf.a1 (Lf.a_v (Lf.c_w rfl Lf.fz_own rfl)) (Lf.a1 (Lf.a_ll rfl) (Lf.a1 (Lf.a_v (Lf.c_p rfl)) Lf.a0))) rfl (l__law_take (kk + 4) hy2) rfl) rfl) rfl) ?_
  obtain ⟨y3, hy3, hg⟩ := bnd hg
  refine ws (e1 := [some (.d (.frl (script.map eI))), some (.d (.lst (y1.map eI))), some (.lst (y3.2.map (mD eI))), some (.d (.int ((1 : Int) + y2.1))), some (.d (.int y3.1)), none, none, none, none, none, none, none, none, none, none, none, none, none, none, none, none, none, none, none]) (Lf.s_asg (Lf.c_call (Lf.a1 (Lf.a_v (Lf.c_v rfl)) (Lf.a1 (Lf.a_ll rfl) (Lf.a1 (Lf.a_v (Lf.b_i (Lf.c_v rfl) (Lf.c_p rfl) rfl)) Lf.a0))) rfl (l__law_take (kk + 4) hy3) rfl) rfl) ?_
  obtain ⟨y4, hy4, hg⟩ := bnd hg
  refine ws (e1 := [some (.d (.frl (script.map eI))), some (.d (.lst (y1.map eI))), some (.lst (y4.2.map (mD eI))), some (.d (.int ((1 : Int) + y2.1))), some (.d (.int y3.1)), some (.d (.tup ((cut y4.1 none (some y3.1)).map eI))), none, none, none, none, none, none, none, none, none, none, none, none, none, none, none, none, none, none]) (Lf.s_asg (Lf.c_sl (Lf.c_call (Lf.a1 (Lf.a_v (Lf.c_v rfl)) (Lf.a1 (Lf.a_ll rfl) (Lf.a1 (Lf.a_v (Lf.c_v rfl)) Lf.a0))) rfl (l__law_figure_li_wi (kk + 2) hy4) rfl) fz_d Lf.o_n (Lf.o_s (Lf.c_v rfl)) Lf.sl_t) rfl) ?_
  obtain ⟨y5, hy5, hg⟩ := bnd hg
  obtain ⟨y7, hy7, hg⟩ := bnd hg
  obtain ⟨y8, hy8, hg⟩ := bnd hg
  obtain ⟨w9, hw9, cw9⟩ := l__law_sets (kk + 5) hy8
  refine ws (e1 := [some (.d (.frl (script.map eI))), some (.d (.lst (y1.map eI))), some (.lst (y4.2.map (mD eI))), some (.d (.int ((1 : Int) + y2.1))), some (.d (.int y3.1)), some (.d (.tup ((cut y4.1 none (some y3.1)).map eI))), some (w9), none, none, none, none, none, none, none, none, none, none, none, none, none, none, none, none, none]) (Lf.s_asg (Lf.c_call (Lf.a1 (Lf.a_v (Lf.d_mapG (enc := eI) (xs := y5) (e2 := [some (.d (.frl (script.map eI))), some (.d (.lst (y1.map eI))), some (.lst (y4.2.map (mD eI))), some (.d (.int ((1 : Int) + y2.1))), some (.d (.int y3.1)), some (.d (.tup ((cut y4.1 none (some y3.1)).map eI))), none, none, none, none, none, none, none, none, none, none, none, none, none, none, none, none, none, none]) (mD eI) hy7 (Lf.i_r1 (Lf.ef1 (Lf.c_v rfl) fz_d Lf.ef0) hy5) rfl (by simp) rfl (fun x6 => ⟨_, _, (Lf.g_n rfl), (Lf.c_v rfl), rfl⟩) rfl)) Lf.a0) rfl cw9 rfl) rfl) ?_
  obtain ⟨y10, hy10, hg⟩ := bnd hg
  obtain ⟨z40, hz40, hg⟩ := bnd hg
  refine Lf.ws_forR (enc := eI) (xs := y10) (z := z40) (fun (ss : (List (List Int))) ee => ∃ f13_ f14_ f15_ f16_ w17_, Lf.Fl0 f13_ ∧ Lf.Fl0 f14_ ∧ Lf.Fl0 f15_ ∧ Lf.Fl0 f16_ ∧ w17_.fz = .lst (ss.map (eL eI)) ∧ ee = [some (.d (.frl (script.map eI))), some (.d (.lst (y1.map eI))), some (.lst (y4.2.map (mD eI))), some (.d (.int ((1 : Int) + y2.1))), some (.d (.int y3.1)), some (.d (.tup ((cut y4.1 none (some y3.1)).map eI))), some (w17_), none, f13_, f14_, none, f15_, none, f16_, none, none, none, none, none, none, none, none, none, none]) (fun (vv : Bool) (m : M) (e : Ev.Env) => m = .d (.bl vv) ∧ takeO [] e = some []) (Lf.i_r1 (Lf.ef1 (Lf.b_i (Lf.c_v rfl) (Lf.c_p rfl) rfl) fz_d Lf.ef0) hy10) ⟨_, _, _, _, _, Lf.fl_n, Lf.fl_n, Lf.fl_n, Lf.fl_n, hw9, rfl⟩ hz40 ?_ ?_ (fun v m ee hq hr => by subst hq; cases hg; exact hr)
  · intro s11 x12 ee vv he hg
    obtain ⟨f13_, f14_, f15_, f16_, w17_, hf13_, hf14_, hf15_, hf16_, hw17_, rfl⟩ := he
    refine ⟨_, (Lf.g_n rfl), ?_⟩
    obtain ⟨y19, hy19, hg⟩ := bnd hg
    refine ws (e1 := [some (.d (.frl (script.map eI))), some (.d (.lst (y1.map eI))), some (.lst (y4.2.map (mD eI))), some (.d (.int ((1 : Int) + y2.1))), some (.d (.int y3.1)), some (.d (.tup ((cut y4.1 none (some y3.1)).map eI))), some (.d (.lst (s11.map (eL eI)))), none, some (.d (.int x12)), some (.lst (y19.map (mD (eL eI)))), none, f15_, none, f16_, none, none, none, none, none, none, none, none, none, none]) (Lf.s_asg (Lf.d_filG (enc := (eL eI)) (xs := s11) (e2 := [some (.d (.frl (script.map eI))), some (.d (.lst (y1.map eI))), some (.lst (y4.2.map (mD eI))), some (.d (.int ((1 : Int) + y2.1))), some (.d (.int y3.1)), some (.d (.tup ((cut y4.1 none (some y3.1)).map eI))), some (.d (.lst (s11.map (eL eI)))), none, some (.d (.int x12)), f14_, none, f15_, none, f16_, none, none, none, none, none, none, none, none, none, none]) (mD (eL eI)) hy19 (Lf.i_v (Lf.c_w rfl hw17_ rfl) fz_d rfl) rfl (by simp) rfl (fun x18 => ⟨_, _, _, (Lf.g_n rfl), (Lf.t_b (Lf.c_cmp (Lf.c_p (Lf.p_len (Lf.k_v rfl) Lf.len_l)) fz_d (Lf.c_v rfl) fz_d (Lf.eq_e Lf.peI (by decide) (x18.length : Int) x12))), rfl, fun hb => ⟨(Lf.c_v rfl), rfl⟩⟩) rfl) rfl) ?_
    obtain ⟨y23, hy23, hg⟩ := bnd hg
    refine ws (e1 := [some (.d (.frl (script.map eI))), some (.d (.lst (y1.map eI))), some (.lst (y4.2.map (mD eI))), some (.d (.int ((1 : Int) + y2.1))), some (.d (.int y3.1)), some (.d (.tup ((cut y4.1 none (some y3.1)).map eI))), some (.d (.lst (s11.map (eL eI)))), none, some (.d (.int x12)), some (.d (.lst (y19.map (eL eI)))), none, some (.lst (y23.map (mD eI))), none, f16_, none, none, none, none, none, none, none, none, none, none]) (Lf.s_asg (Lf.d_mapO (enc := (eL eI)) (xs := y19) (e2 := [some (.d (.frl (script.map eI))), some (.d (.lst (y1.map eI))), some (.lst (y4.2.map (mD eI))), some (.d (.int ((1 : Int) + y2.1))), some (.d (.int y3.1)), some (.d (.tup ((cut y4.1 none (some y3.1)).map eI))), some (.d (.lst (s11.map (eL eI)))), none, some (.d (.int x12)), some (.d (.lst (y19.map (eL eI)))), none, f15_, none, f16_, none, none, none, none, none, none, none, none, none, none]) (mD eI) hy23 (Lf.i_v (Lf.c_w rfl Lf.fz_own rfl) fz_d rfl) rfl (by simp) rfl (fun x20 vv hg => by obtain ⟨y22, hy22, hg⟩ := bnd hg; have hv := Option.some.inj hg; subst hv; exact ⟨_, _, (Lf.g_n rfl), (Lf.c_bV (Lf.ef1 (Lf.d_filG (enc := eI) (xs := x20) (e2 := [some (.d (.frl (script.map eI))), some (.d (.lst (y1.map eI))), some (.lst (y4.2.map (mD eI))), some (.d (.int ((1 : Int) + y2.1))), some (.d (.int y3.1)), some (.d (.tup ((cut y4.1 none (some y3.1)).map eI))), some (.d (.lst (s11.map (eL eI)))), none, some (.d (.int x12)), some (.d (.lst (y19.map (eL eI)))), some (.d (.lst (x20.map eI))), f15_, none, f16_, none, none, none, none, none, none, none, none, none, none]) (mD eI) hy22 (Lf.i_v (Lf.c_v rfl) fz_d rfl) rfl (by simp) rfl (fun x21 => ⟨_, _, _, (Lf.g_n rfl), (Lf.t_b (Lf.c_inK (Lf.p_k (Lf.k_v rfl)) (Lf.k_v rfl) rfl rfl (Lf.in_e Lf.peI (by decide) x21 (cut y4.1 none (some y3.1))))), rfl, fun hb => ⟨(Lf.c_v rfl), rfl⟩⟩) rfl) Lf.fz_own Lf.ef0) (Lf.f_m1 Lf.f_len_l)), rfl⟩) rfl) rfl) ?_
    obtain ⟨y24, hy24, hg⟩ := bnd hg
    obtain ⟨y26, hy26, hg⟩ := bnd hg
    obtain ⟨y27, hy27, hg⟩ := bnd hg
    obtain ⟨y30, hy30, hg⟩ := bnd hg
    refine ws_if (Lf.t_orz (z := y30) (Lf.t_b (Lf.c_cmp (Lf.c_call (Lf.a1 (Lf.a_v (Lf.c_v rfl)) (Lf.a1 (Lf.a_v (Lf.c_v rfl)) (Lf.a1 (Lf.a_v (Lf.c_v rfl)) Lf.a0))) rfl (l_chance_found kk hy24) rfl) fz_d (Lf.c_call (Lf.a1 (Lf.a_v (Lf.c_bV (Lf.ef1 (Lf.d_filG (enc := eI) (xs := y23) (e2 := [some (.d (.frl (script.map eI))), some (.d (.lst (y1.map eI))), some (.lst (y4.2.map (mD eI))), some (.d (.int ((1 : Int) + y2.1))), some (.d (.int y3.1)), some (.d (.tup ((cut y4.1 none (some y3.1)).map eI))), some (.d (.lst (s11.map (eL eI)))), none, some (.d (.int x12)), some (.d (.lst (y19.map (eL eI)))), none, some (.d (.lst (y23.map eI))), none, f16_, none, none, none, none, none, none, none, none, none, none]) (mD eI) hy26 (Lf.i_v (Lf.c_w rfl Lf.fz_own rfl) fz_d rfl) rfl (by simp) rfl (fun x25 => ⟨_, _, _, (Lf.g_n rfl), (Lf.t_b (Lf.c_cmp (Lf.c_v rfl) fz_d (Lf.c_p rfl) fz_d rfl)), rfl, fun hb => ⟨(Lf.c_v rfl), rfl⟩⟩) rfl) Lf.fz_own Lf.ef0) (Lf.f_m1 Lf.f_len_l))) (Lf.a1 (Lf.a_v (Lf.c_p (Lf.p_len (Lf.k_v rfl) Lf.len_l))) Lf.a0)) rfl (l__law_red_2 (kk + 3) hy27) rfl) fz_d (Lf.ne_e (Lf.peP2 Lf.peI Lf.peI) (by decide) y24 y27))) (fun hb => by have hg := ite_f hb hy30; obtain ⟨y28, hy28, hg⟩ := bnd hg; obtain ⟨y29, hy29, hg⟩ := bnd hg; exact Lf.tcv (Lf.t_b (Lf.c_cmp (Lf.c_call (Lf.a1 (Lf.a_v (Lf.c_v rfl)) (Lf.a1 (Lf.a_v (Lf.c_v rfl)) (Lf.a1 (Lf.a_v (Lf.c_v rfl)) Lf.a0))) rfl (l_mean_found kk hy28) rfl) fz_d (Lf.c_call (Lf.a1 (Lf.a_v (Lf.c_bK (Lf.k_v rfl) rfl (Lf.f_sum (xs := y23) rfl))) (Lf.a1 (Lf.a_v (Lf.c_p (Lf.p_len (Lf.k_v rfl) Lf.len_l))) Lf.a0)) rfl (l__law_red_2 (kk + 3) hy29) rfl) fz_d (Lf.ne_e (Lf.peP2 Lf.peI Lf.peI) (by decide) y28 y29))) (Option.some.inj hg)) (fun hb => by have hg := ite_t hb hy30; cases hg; rfl)) (fun hb => ?_) (fun hb => ?_)
    · have hg := ite_t hb hg
      refine ws_assoc ?_
      have hv := Option.some.inj hg
      subst hv
      exact ws_ret (Lf.c_p rfl) ⟨rfl, rfl⟩
    · have hg := ite_f hb hg
      refine ws_skip ?_
      obtain ⟨y31, hy31, hg⟩ := bnd hg
      obtain ⟨y35, hy35, hg⟩ := bnd hg
      refine ws (e1 := [some (.d (.frl (script.map eI))), some (.d (.lst (y1.map eI))), some (.lst (y4.2.map (mD eI))), some (.d (.int ((1 : Int) + y2.1))), some (.d (.int y3.1)), some (.d (.tup ((cut y4.1 none (some y3.1)).map eI))), some (.d (.lst (s11.map (eL eI)))), none, some (.d (.int x12)), some (.d (.lst (y19.map (eL eI)))), none, some (.d (.lst (y23.map eI))), none, some (.lst (y35.map (mD eI))), none, none, none, none, none, none, none, none, none, none]) (Lf.s_asg (Lf.d_mapO (enc := eI) (xs := y31) (e2 := [some (.d (.frl (script.map eI))), some (.d (.lst (y1.map eI))), some (.lst (y4.2.map (mD eI))), some (.d (.int ((1 : Int) + y2.1))), some (.d (.int y3.1)), some (.d (.tup ((cut y4.1 none (some y3.1)).map eI))), some (.d (.lst (s11.map (eL eI)))), none, some (.d (.int x12)), some (.d (.lst (y19.map (eL eI)))), none, some (.d (.lst (y23.map eI))), none, f16_, none, none, none, none, none, none, none, none, none, none]) (mD eI) hy35 (Lf.i_r1 (Lf.ef1 (Lf.b_i (Lf.c_v rfl) (Lf.c_p rfl) rfl) fz_d Lf.ef0) hy31) rfl (by simp) rfl (fun x32 vv hg => by obtain ⟨y34, hy34, hg⟩ := bnd hg; have hv := Option.some.inj hg; subst hv; exact ⟨_, _, (Lf.g_n rfl), (Lf.c_bV (Lf.ef1 (Lf.d_filG (enc := eI) (xs := y23) (e2 := [some (.d (.frl (script.map eI))), some (.d (.lst (y1.map eI))), some (.lst (y4.2.map (mD eI))), some (.d (.int ((1 : Int) + y2.1))), some (.d (.int y3.1)), some (.d (.tup ((cut y4.1 none (some y3.1)).map eI))), some (.d (.lst (s11.map (eL eI)))), none, some (.d (.int x12)), some (.d (.lst (y19.map (eL eI)))), none, some (.d (.lst (y23.map eI))), none, f16_, some (.d (.int x32)), none, none, none, none, none, none, none, none, none]) (mD eI) hy34 (Lf.i_v (Lf.c_v rfl) fz_d rfl) rfl (by simp) rfl (fun x33 => ⟨_, _, _, (Lf.g_n rfl), (Lf.t_b (Lf.c_cmp (Lf.c_v rfl) fz_d (Lf.c_v rfl) fz_d (Lf.eq_e Lf.peI (by decide) x33 x32))), rfl, fun hb => ⟨(Lf.c_v rfl), rfl⟩⟩) rfl) Lf.fz_own Lf.ef0) (Lf.f_m1 Lf.f_len_l)), rfl⟩) rfl) rfl) ?_
      obtain ⟨y36, hy36, hg⟩ := bnd hg
      obtain ⟨y37, hy37, hg⟩ := bnd hg
      obtain ⟨y38, hy38, hg⟩ := bnd hg
      refine ws_if (Lf.t_b (Lf.c_cmp (Lf.c_call (Lf.a1 (Lf.a_v (Lf.c_v rfl)) (Lf.a1 (Lf.a_v (Lf.c_v rfl)) (Lf.a1 (Lf.a_v (Lf.c_v rfl)) Lf.a0))) rfl (l_most_likely_found kk hy36) rfl) fz_d (Lf.c_mV (Lf.c_w rfl Lf.fz_own rfl) fz_d (Lf.c_bK (Lf.k_v rfl) rfl (Lf.f_max (xs := y35) rfl hy37)) fz_d (Lf.idx_e Lf.peI (by decide) hy38).2) fz_d (Lf.ne_e Lf.peI (by decide) y36 y38))) (fun hb => ?_) (fun hb => ?_)
      · have hg := ite_t hb hg
        refine ws_assoc ?_
        have hv := Option.some.inj hg
        subst hv
        exact ws_ret (Lf.c_p rfl) ⟨rfl, rfl⟩
      · have hg := ite_f hb hg
        refine ws_skip ?_
        have hv := Option.some.inj hg
        subst hv
        exact ws_end ⟨_, _, _, _, _, Lf.fl_d, Lf.fl_d, Lf.fl_d, Lf.fl_d, fz_d, rfl⟩
  intro s39 ee hq he
  subst hq
  obtain ⟨f13_, f14_, f15_, f16_, w17_, hf13_, hf14_, hf15_, hf16_, hw17_, rfl⟩ := he
  try dsimp only at hg
  obtain ⟨y41, hy41, hg⟩ := bnd hg
  obtain ⟨z57, hz57, hg⟩ := bnd hg
  refine Lf.ws_forR (enc := eI) (xs := y41) (z := z57) (fun (ss : Unit) ee => ∃ o44_ f45_ f46_, Lf.Fl0 f45_ ∧ Lf.Fl0 f46_ ∧ ee = [some (.d (.frl (script.map eI))), some (.d (.lst (y1.map eI))), some (.lst (y4.2.map (mD eI))), some (.d (.int ((1 : Int) + y2.1))), some (.d (.int y3.1)), some (.d (.tup ((cut y4.1 none (some y3.1)).map eI))), some (w17_), f45_, f13_, f14_, none, f15_, none, f16_, none, f46_, o44_, none, none, none, none, none, none, none]) (fun (vv : Bool) (m : M) (e : Ev.Env) => m = .d (.bl vv) ∧ takeO [] e = some []) (Lf.i_r1 (Lf.ef1 (Lf.b_i (Lf.c_v rfl) (Lf.c_p rfl) rfl) fz_d Lf.ef0) hy41) ⟨_, _, _, Lf.fl_n, Lf.fl_n, rfl⟩ hz57 ?_ ?_ (fun v m ee hq hr => by subst hq; cases hg; exact hr)
  · intro s42 x43 ee vv he hg
    obtain ⟨o44_, f45_, f46_, hf45_, hf46_, rfl⟩ := he
    refine ⟨_, (Lf.g_n rfl), ?_⟩
    obtain ⟨y47, hy47, hg⟩ := bnd hg
    refine ws (e1 := [some (.d (.frl (script.map eI))), some (.d (.lst (y1.map eI))), some (.lst (y4.2.map (mD eI))), some (.d (.int ((1 : Int) + y2.1))), some (.d (.int y3.1)), some (.d (.tup ((cut y4.1 none (some y3.1)).map eI))), some (w17_), some (.d (.int x43)), f13_, f14_, none, f15_, none, f16_, none, some (.d (.tup [.int y47.1, .int y47.2])), o44_, none, none, none, none, none, none, none]) (Lf.s_asg (Lf.c_call (Lf.a1 (Lf.a_v (Lf.c_v rfl)) (Lf.a1 (Lf.a_v (Lf.c_v rfl)) Lf.a0)) rfl (l__law_red_2 (kk + 3) hy47) rfl) rfl) ?_
    obtain ⟨y48, hy48, hg⟩ := bnd hg
    obtain ⟨y52, hy52, hg⟩ := bnd hg
    refine ws (e1 := [some (.d (.frl (script.map eI))), some (.d (.lst (y1.map eI))), some (.lst (y4.2.map (mD eI))), some (.d (.int ((1 : Int) + y2.1))), some (.d (.int y3.1)), some (.d (.tup ((cut y4.1 none (some y3.1)).map eI))), some (w17_), some (.d (.int x43)), f13_, f14_, none, f15_, none, f16_, none, some (.d (.tup [.int y47.1, .int y47.2])), some (.lst (y52.map (mD eI))), none, none, none, none, none, none, none]) (Lf.s_asg (Lf.d_compO (enc := eI) (xs := y48) (e2 := [some (.d (.frl (script.map eI))), some (.d (.lst (y1.map eI))), some (.lst (y4.2.map (mD eI))), some (.d (.int ((1 : Int) + y2.1))), some (.d (.int y3.1)), some (.d (.tup ((cut y4.1 none (some y3.1)).map eI))), some (w17_), some (.d (.int x43)), f13_, f14_, none, f15_, none, f16_, none, some (.d (.tup [.int y47.1, .int y47.2])), o44_, none, none, none, none, none, none, none]) (mD eI) hy52 (Lf.i_r1 (Lf.ef1 (Lf.b_i (Lf.c_v rfl) (Lf.c_p rfl) rfl) fz_d Lf.ef0) hy48) (Lf.flat1 hf13_ rfl Lf.flat0) (by simp) rfl (fun x49 vv hg => by obtain ⟨y50, hy50, hg⟩ := bnd hg; obtain ⟨y51, hy51, hg⟩ := bnd hg;  cases hb : (!y51) with | true => (have hg := ite_t hb hg;  have hv := Option.some.inj hg; subst hv; exact ⟨_, _, (Lf.g_n rfl), .inr ⟨_, _, rfl, Lf.tcv (Lf.t_not (Lf.t_v (Lf.c_call (Lf.a1 (Lf.a_v (Lf.c_call (Lf.a1 (Lf.a_v (Lf.c_v rfl)) (Lf.a1 (Lf.a_v (Lf.c_v rfl)) (Lf.a1 (Lf.a_v (Lf.c_v rfl)) Lf.a0))) rfl (l_chance_found kk hy50) rfl)) (Lf.a1 (Lf.a_v (Lf.c_v rfl)) Lf.a0)) rfl (l__law_less (kk + 5) hy51) rfl) fz_d rfl)) hb, (Lf.c_v rfl), rfl⟩⟩) | false => (have hg := ite_f hb hg; have hv := Option.some.inj hg; subst hv; exact ⟨_, _, (Lf.g_n rfl), .inl ⟨rfl, Lf.tcv (Lf.t_not (Lf.t_v (Lf.c_call (Lf.a1 (Lf.a_v (Lf.c_call (Lf.a1 (Lf.a_v (Lf.c_v rfl)) (Lf.a1 (Lf.a_v (Lf.c_v rfl)) (Lf.a1 (Lf.a_v (Lf.c_v rfl)) Lf.a0))) rfl (l_chance_found kk hy50) rfl)) (Lf.a1 (Lf.a_v (Lf.c_v rfl)) Lf.a0)) rfl (l__law_less (kk + 5) hy51) rfl) fz_d rfl)) hb, rfl⟩⟩)) rfl) rfl) ?_
    obtain ⟨y53, hy53, hg⟩ := bnd hg
    obtain ⟨y55, hy55, hg⟩ := bnd hg
    refine ws_if (Lf.t_b (Lf.c_cmp (Lf.c_call (Lf.a1 (Lf.a_v (Lf.c_v rfl)) (Lf.a1 (Lf.a_v (Lf.c_v rfl)) (Lf.a1 (Lf.a_v (Lf.c_v rfl)) Lf.a0))) rfl (l_least_looked (kk + 1) hy53) rfl) fz_d (Lf.c_if (m := (mD (eO eI)) y55) (e2 := [some (.d (.frl (script.map eI))), some (.d (.lst (y1.map eI))), some (.lst (y4.2.map (mD eI))), some (.d (.int ((1 : Int) + y2.1))), some (.d (.int y3.1)), some (.d (.tup ((cut y4.1 none (some y3.1)).map eI))), some (w17_), some (.d (.int x43)), f13_, f14_, none, f15_, none, f16_, none, some (.d (.tup [.int y47.1, .int y47.2])), some (.lst (y52.map (mD eI))), none, none, none, none, none, none, none]) (Lf.t_b (Lf.c_cmp (Lf.c_p (Lf.p_lena (Lf.k_ol rfl) (Lf.at0 rfl) Lf.len_m)) fz_d (Lf.c_p rfl) fz_d rfl)) (fun hb => by have hg := ite_t hb hy55; obtain ⟨y54, hy54, hg⟩ := bnd hg;  have hv := Option.some.inj hg; subst hv; exact (Lf.c_k (Lf.k_io (Lf.k_ol rfl) (Lf.at0 rfl) rfl (Lf.atI_map hy54)))) (fun hb => by have hg := ite_f hb hy55;  have hv := Option.some.inj hg; subst hv; exact (Lf.c_p rfl))) fz_d (Lf.ne_o Lf.peI (fun _ => by simp) (by decide) y53 y55))) (fun hb => ?_) (fun hb => ?_)
    · have hg := ite_t hb hg
      refine ws_assoc ?_
      have hv := Option.some.inj hg
      subst hv
      exact ws_ret (Lf.c_p rfl) ⟨rfl, rfl⟩
    · have hg := ite_f hb hg
      refine ws_skip ?_
      have hv := Option.some.inj hg
      subst hv
      exact ws_end ⟨_, _, _, Lf.fl_d, Lf.fl_d, rfl⟩
  intro s56 ee hq he
  subst hq
  obtain ⟨o44_, f45_, f46_, hf45_, hf46_, rfl⟩ := he
  try dsimp only at hg
  refine ws (e1 := [some (.d (.frl (script.map eI))), some (.d (.lst (y1.map eI))), some (.lst (y4.2.map (mD eI))), some (.d (.int ((1 : Int) + y2.1))), some (.d (.int y3.1)), some (.d (.tup ((cut y4.1 none (some y3.1)).map eI))), some (w17_), f45_, f13_, f14_, none, f15_, none, f16_, none, f46_, o44_, some (.d (.int (min y3.1 (3 : Int)))), none, none, none, none, none, none]) (Lf.s_asg (Lf.c_bV (Lf.ef1 (Lf.c_v rfl) fz_d (Lf.ef1 (Lf.c_p rfl) fz_d Lf.ef0)) Lf.f_min2) rfl) ?_
  obtain ⟨y58, hy58, hg⟩ := bnd hg
  obtain ⟨z89, hz89, hg⟩ := bnd hg
  refine Lf.ws_forR (enc := eI) (xs := y58) (z := z89) (fun (ss : (List (List Int))) ee => ∃ o61_ f62_ f63_ f64_ f65_ f66_ w67_, Lf.Fl0 f62_ ∧ Lf.Fl0 f63_ ∧ Lf.Fl0 f64_ ∧ Lf.Fl0 f65_ ∧ Lf.Fl0 f66_ ∧ w67_.fz = .lst (ss.map (eL eI)) ∧ ee = [some (.d (.frl (script.map eI))), some (.d (.lst (y1.map eI))), some (.lst (y4.2.map (mD eI))), some (.d (.int ((1 : Int) + y2.1))), some (.d (.int y3.1)), some (.d (.tup ((cut y4.1 none (some y3.1)).map eI))), some (w67_), f62_, f13_, f14_, f63_, f15_, none, f16_, none, f46_, o44_, some (.d (.int (min y3.1 (3 : Int)))), f64_, o61_, none, f65_, f66_, none]) (fun (vv : Bool) (m : M) (e : Ev.Env) => m = .d (.bl vv) ∧ takeO [] e = some []) (Lf.i_r2 (Lf.ef1 (Lf.c_p rfl) fz_d (Lf.ef1 (Lf.b_i (Lf.c_v rfl) (Lf.c_p rfl) rfl) fz_d Lf.ef0)) hy58) ⟨_, _, _, _, _, _, _, hf45_, Lf.fl_n, Lf.fl_n, Lf.fl_n, Lf.fl_n, hw17_, rfl⟩ hz89 ?_ ?_ (fun v m ee hq hr => by subst hq; cases hg; exact hr)
  · intro s59 x60 ee vv he hg
    obtain ⟨o61_, f62_, f63_, f64_, f65_, f66_, w67_, hf62_, hf63_, hf64_, hf65_, hf66_, hw67_, rfl⟩ := he
    refine ⟨_, (Lf.g_n rfl), ?_⟩
    refine ws (e1 := [some (.d (.frl (script.map eI))), some (.d (.lst (y1.map eI))), some (.lst (y4.2.map (mD eI))), some (.d (.int ((1 : Int) + y2.1))), some (.d (.int y3.1)), some (.d (.tup ((cut y4.1 none (some y3.1)).map eI))), some (w67_), f62_, f13_, f14_, f63_, f15_, none, f16_, none, f46_, o44_, some (.d (.int (min y3.1 (3 : Int)))), some (.d (.int x60)), some (.lst (([] : List Int).map (mD eI))), none, f65_, f66_, none]) (Lf.s_asg (Lf.c_lst Lf.em0 (Nat.le_of_ble_eq_true rfl)) rfl) ?_
    obtain ⟨y68, hy68, hg⟩ := bnd hg
    obtain ⟨s76, hs76, hg⟩ := bnd hg
    refine Lf.ws_forF (enc := eI) (xs := y68) (fun (ss : (List (List Int))) ee => ∃ f71_, Lf.Fl0 f71_ ∧ ee = [some (.d (.frl (script.map eI))), some (.d (.lst (y1.map eI))), some (.lst (y4.2.map (mD eI))), some (.d (.int ((1 : Int) + y2.1))), some (.d (.int y3.1)), some (.d (.tup ((cut y4.1 none (some y3.1)).map eI))), some (w67_), f71_, f13_, f14_, f63_, f15_, none, f16_, none, f46_, o44_, some (.d (.int (min y3.1 (3 : Int)))), some (.d (.int x60)), some (.lst (ss.map (mL (mD eI)))), none, f65_, f66_, none]) (Lf.i_rs (Lf.ef1 (Lf.c_p rfl) fz_d (Lf.ef1 (Lf.c_v rfl) fz_d (Lf.ef1 (Lf.c_v rfl) fz_d Lf.ef0))) hy68) ⟨_, hf62_, rfl⟩ hs76 ?_ ?_
    · intro s69 x70 ee vv he hg
      obtain ⟨f71_, hf71_, rfl⟩ := he
      refine ⟨_, (Lf.g_n rfl), ?_⟩
      obtain ⟨y72, hy72, hg⟩ := bnd hg
      obtain ⟨y74, hy74, hg⟩ := bnd hg
      obtain ⟨y75, hy75, hg⟩ := bnd hg
      refine ws (e1 := [some (.d (.frl (script.map eI))), some (.d (.lst (y1.map eI))), some (.lst (y4.2.map (mD eI))), some (.d (.int ((1 : Int) + y2.1))), some (.d (.int y3.1)), some (.d (.tup ((cut y4.1 none (some y3.1)).map eI))), some (w67_), some (.d (.int x70)), f13_, f14_, f63_, f15_, none, f16_, none, f46_, o44_, some (.d (.int (min y3.1 (3 : Int)))), some (.d (.int x60)), some (.lst (y75.map (mL (mD eI)))), none, f65_, f66_, none]) (Lf.s_app (mf := (mL (mD eI))) (v := y74) (xs := s69) rfl (Lf.d_mapG (enc := eI) (xs := y72) (e2 := [some (.d (.frl (script.map eI))), some (.d (.lst (y1.map eI))), some (.lst (y4.2.map (mD eI))), some (.d (.int ((1 : Int) + y2.1))), some (.d (.int y3.1)), some (.d (.tup ((cut y4.1 none (some y3.1)).map eI))), some (w67_), some (.d (.int x70)), f13_, f14_, f63_, f15_, none, f16_, none, f46_, o44_, some (.d (.int (min y3.1 (3 : Int)))), some (.d (.int x60)), some (.lst (s69.map (mL (mD eI)))), none, f65_, f66_, none]) (mD eI) hy74 (Lf.i_r2 (Lf.ef1 (Lf.c_v rfl) fz_d (Lf.ef1 (Lf.c_bV (Lf.ef1 (Lf.c_v rfl) fz_d (Lf.ef1 (Lf.b_i (Lf.c_v rfl) (Lf.c_v rfl) rfl) fz_d Lf.ef0)) Lf.f_min2) fz_d Lf.ef0)) hy72) rfl (by simp) rfl (fun x73 => ⟨_, _, (Lf.g_n rfl), (Lf.c_v rfl), rfl⟩) rfl) rfl hy75 rfl) ?_
      have hv := Option.some.inj hg
      subst hv
      exact ws_end ⟨_, Lf.fl_d, rfl⟩
    intro ee he
    obtain ⟨f71_, hf71_, rfl⟩ := he
    refine ws (e1 := [some (.d (.frl (script.map eI))), some (.d (.lst (y1.map eI))), some (.lst (y4.2.map (mD eI))), some (.d (.int ((1 : Int) + y2.1))), some (.d (.int y3.1)), some (.d (.tup ((cut y4.1 none (some y3.1)).map eI))), some (w67_), f71_, f13_, f14_, f63_, f15_, none, f16_, none, f46_, o44_, some (.d (.int (min y3.1 (3 : Int)))), some (.d (.int x60)), some (.lst (s76.map (mL (mD eI)))), none, some (.d (.int (0 : Int))), f66_, none]) (Lf.s_asg (Lf.c_p rfl) rfl) ?_
    obtain ⟨s86, hs86, hg⟩ := bnd hg
    refine Lf.ws_forF (enc := (eL eI)) (xs := s59) (fun (ss : ((List (List Int)) × Int)) ee => ∃ f79_ f80_ w81_, Lf.Fl0 f79_ ∧ Lf.Fl0 f80_ ∧ w81_.fz = .lst (ss.1.map (eL eI)) ∧ ee = [some (.d (.frl (script.map eI))), some (.d (.lst (y1.map eI))), some (.lst (y4.2.map (mD eI))), some (.d (.int ((1 : Int) + y2.1))), some (.d (.int y3.1)), some (.d (.tup ((cut y4.1 none (some y3.1)).map eI))), some (.d (.lst (s59.map (eL eI)))), f71_, f13_, f14_, f79_, f15_, none, f16_, none, f46_, o44_, some (.d (.int (min y3.1 (3 : Int)))), some (.d (.int x60)), some (w81_), none, some (.d (.int ss.2)), f80_, none]) (Lf.i_v (Lf.c_w rfl hw67_ rfl) fz_d rfl) ⟨_, _, _, hf63_, hf66_, (fz_L fun _ => Lf.fz_own), rfl⟩ hs86 ?_ ?_
    · intro s77 x78 ee vv he hg
      obtain ⟨f79_, f80_, w81_, hf79_, hf80_, hw81_, rfl⟩ := he
      refine ⟨_, (Lf.g_n rfl), ?_⟩
      refine ws_if (Lf.t_b (Lf.c_cmp (Lf.c_p (Lf.p_len (Lf.k_v rfl) Lf.len_l)) fz_d (Lf.c_v rfl) fz_d (Lf.eq_e Lf.peI (by decide) (x78.length : Int) (min y3.1 (3 : Int))))) (fun hb => ?_) (fun hb => ?_)
      · have hg := ite_t hb hg
        refine ws_assoc ?_
        obtain ⟨y85, hy85, hg⟩ := bnd hg
        refine ws (e1 := [some (.d (.frl (script.map eI))), some (.d (.lst (y1.map eI))), some (.lst (y4.2.map (mD eI))), some (.d (.int ((1 : Int) + y2.1))), some (.d (.int y3.1)), some (.d (.tup ((cut y4.1 none (some y3.1)).map eI))), some (.d (.lst (s59.map (eL eI)))), f71_, f13_, f14_, some (.d (.lst (x78.map eI))), f15_, none, f16_, none, f46_, o44_, some (.d (.int (min y3.1 (3 : Int)))), some (.d (.int x60)), some (.d (.lst (s77.1.map (eL eI)))), none, some (.d (.int s77.2)), some (.d (.int ((s77.1.length : Int) + y85.sum))), none]) (Lf.s_asg (Lf.b_i (Lf.c_p (Lf.p_lenf rfl hw81_ Lf.len_m)) (Lf.c_bV (Lf.ef1 (Lf.d_compO (enc := (eL eI)) (xs := s77.1) (e2 := [some (.d (.frl (script.map eI))), some (.d (.lst (y1.map eI))), some (.lst (y4.2.map (mD eI))), some (.d (.int ((1 : Int) + y2.1))), some (.d (.int y3.1)), some (.d (.tup ((cut y4.1 none (some y3.1)).map eI))), some (.d (.lst (s59.map (eL eI)))), f71_, f13_, f14_, some (.d (.lst (x78.map eI))), f15_, none, f16_, none, f46_, o44_, some (.d (.int (min y3.1 (3 : Int)))), some (.d (.int x60)), some (.d (.lst (s77.1.map (eL eI)))), none, some (.d (.int s77.2)), f80_, none]) (mD eI) hy85 (Lf.i_v (Lf.c_w rfl hw81_ rfl) fz_d rfl) rfl (by simp) rfl (fun x82 vv hg => by obtain ⟨y84, hy84, hg⟩ := bnd hg;  cases hb : (decide ((0 : Int) < (y84.length : Int))) with | true => (have hg := ite_t hb hg;  have hv := Option.some.inj hg; subst hv; exact ⟨_, _, (Lf.g_n rfl), .inr ⟨_, _, rfl, Lf.tcv (Lf.t_b (Lf.c_cmp (Lf.c_bV (Lf.ef1 (Lf.d_filG (enc := eI) (xs := x82) (e2 := [some (.d (.frl (script.map eI))), some (.d (.lst (y1.map eI))), some (.lst (y4.2.map (mD eI))), some (.d (.int ((1 : Int) + y2.1))), some (.d (.int y3.1)), some (.d (.tup ((cut y4.1 none (some y3.1)).map eI))), some (.d (.lst (s59.map (eL eI)))), f71_, f13_, f14_, some (.d (.lst (x78.map eI))), f15_, none, f16_, none, f46_, o44_, some (.d (.int (min y3.1 (3 : Int)))), some (.d (.int x60)), some (.d (.lst (s77.1.map (eL eI)))), none, some (.d (.int s77.2)), f80_, some (.d (.lst (x82.map eI)))]) (mD eI) hy84 (Lf.i_v (Lf.c_v rfl) fz_d rfl) (Lf.flat1 hf71_ rfl Lf.flat0) (by simp) rfl (fun x83 => ⟨_, _, _, (Lf.g_n rfl), (Lf.t_b (Lf.c_inK (Lf.p_k (Lf.k_v rfl)) (Lf.k_v rfl) rfl rfl (Lf.in_e Lf.peI (by decide) x83 x78))), rfl, fun hb => ⟨(Lf.c_v rfl), rfl⟩⟩) rfl) Lf.fz_own Lf.ef0) (Lf.f_m1 Lf.f_len_l)) fz_d (Lf.c_p rfl) fz_d rfl)) hb, (Lf.c_p (Lf.p_len (Lf.k_v rfl) Lf.len_l)), rfl⟩⟩) | false => (have hg := ite_f hb hg; have hv := Option.some.inj hg; subst hv; exact ⟨_, _, (Lf.g_n rfl), .inl ⟨rfl, Lf.tcv (Lf.t_b (Lf.c_cmp (Lf.c_bV (Lf.ef1 (Lf.d_filG (enc := eI) (xs := x82) (e2 := [some (.d (.frl (script.map eI))), some (.d (.lst (y1.map eI))), some (.lst (y4.2.map (mD eI))), some (.d (.int ((1 : Int) + y2.1))), some (.d (.int y3.1)), some (.d (.tup ((cut y4.1 none (some y3.1)).map eI))), some (.d (.lst (s59.map (eL eI)))), f71_, f13_, f14_, some (.d (.lst (x78.map eI))), f15_, none, f16_, none, f46_, o44_, some (.d (.int (min y3.1 (3 : Int)))), some (.d (.int x60)), some (.d (.lst (s77.1.map (eL eI)))), none, some (.d (.int s77.2)), f80_, some (.d (.lst (x82.map eI)))]) (mD eI) hy84 (Lf.i_v (Lf.c_v rfl) fz_d rfl) (Lf.flat1 hf71_ rfl Lf.flat0) (by simp) rfl (fun x83 => ⟨_, _, _, (Lf.g_n rfl), (Lf.t_b (Lf.c_inK (Lf.p_k (Lf.k_v rfl)) (Lf.k_v rfl) rfl rfl (Lf.in_e Lf.peI (by decide) x83 x78))), rfl, fun hb => ⟨(Lf.c_v rfl), rfl⟩⟩) rfl) Lf.fz_own Lf.ef0) (Lf.f_m1 Lf.f_len_l)) fz_d (Lf.c_p rfl) fz_d rfl)) hb, rfl⟩⟩)) rfl) Lf.fz_own Lf.ef0) (Lf.f_m1 (Lf.f_sum (xs := y85) rfl))) rfl) rfl) ?_
        refine ws_assoc ?_
        refine ws (e1 := [some (.d (.frl (script.map eI))), some (.d (.lst (y1.map eI))), some (.lst (y4.2.map (mD eI))), some (.d (.int ((1 : Int) + y2.1))), some (.d (.int y3.1)), some (.d (.tup ((cut y4.1 none (some y3.1)).map eI))), some (.d (.lst (s59.map (eL eI)))), f71_, f13_, f14_, some (.d (.lst (x78.map eI))), f15_, none, f16_, none, f46_, o44_, some (.d (.int (min y3.1 (3 : Int)))), some (.d (.int x60)), some (.d (.lst (s77.1.map (eL eI)))), none, some (.d (.int (max s77.2 ((s77.1.length : Int) + y85.sum)))), some (.d (.int ((s77.1.length : Int) + y85.sum))), none]) (Lf.s_asg (Lf.c_bV (Lf.ef1 (Lf.c_v rfl) fz_d (Lf.ef1 (Lf.c_v rfl) fz_d Lf.ef0)) Lf.f_max2) rfl) ?_
        refine ws_skip ?_
        have hv := Option.some.inj hg
        subst hv
        exact ws_end ⟨_, _, _, Lf.fl_d, Lf.fl_d, fz_d, rfl⟩
      · have hg := ite_f hb hg
        refine ws_skip ?_
        have hv := Option.some.inj hg
        subst hv
        exact ws_end ⟨_, _, _, Lf.fl_d, hf80_, hw81_, rfl⟩
    intro ee he
    obtain ⟨f79_, f80_, w81_, hf79_, hf80_, hw81_, rfl⟩ := he
    obtain ⟨y87, hy87, hg⟩ := bnd hg
    refine ws_if (Lf.t_b (Lf.c_cmp (Lf.c_call (Lf.a1 (Lf.a_v (Lf.c_v rfl)) (Lf.a1 (Lf.a_v (Lf.c_v rfl)) (Lf.a1 (Lf.a_v (Lf.c_v rfl)) Lf.a0))) rfl (l_pooled (kk + 1) hy87) rfl) fz_d (Lf.c_v rfl) fz_d (Lf.ne_e Lf.peI (by decide) y87 s86.2))) (fun hb => ?_) (fun hb => ?_)
    · have hg := ite_t hb hg
      refine ws_assoc ?_
      have hv := Option.some.inj hg
      subst hv
      exact ws_ret (Lf.c_p rfl) ⟨rfl, rfl⟩
    · have hg := ite_f hb hg
      refine ws_skip ?_
      have hv := Option.some.inj hg
      subst hv
      exact ws_end ⟨_, _, _, _, _, _, _, hf71_, hf79_, Lf.fl_d, Lf.fl_d, hf80_, fz_d, rfl⟩
  intro s88 ee hq he
  subst hq
  obtain ⟨o61_, f62_, f63_, f64_, f65_, f66_, w67_, hf62_, hf63_, hf64_, hf65_, hf66_, hw67_, rfl⟩ := he
  try dsimp only at hg
  have hv := Option.some.inj hg
  subst hv
  exact ws_ret (Lf.c_p rfl) ⟨rfl, rfl⟩
end Tw
set_option Elab.async false
set_option linter.all false
set_option maxRecDepth 100000
set_option maxHeartbeats 1000000
/-! What the laws have in common. -/
namespace Tw
open PySem Ev
theorem draw_ok {row : List Int} {s lim : Int} (hr : row ≠ []) (hs : 0 ≤ s) (hl : 0 < lim) : Ok (g__law_draw row s lim) fun v => 0 ≤ v ∧ v < lim := by
  have hpos : 0 < row.length := List.length_pos_iff.mpr hr
  unfold g__law_draw
  refine ok_ite (fun h => ?_) fun h => ?_
  · have h : s < (row.length : Int) := by simpa using h
    exact ok_beq (ixO_ok hs h) (ok_beq (modI hl) (ok_some ⟨Int.emod_nonneg _ (by omega), Int.emod_lt_of_pos _ hl⟩))
  · have h1 : 0 ≤ s % (row.length : Int) := Int.emod_nonneg _ (by omega)
    have h2 : s % (row.length : Int) < row.length := Int.emod_lt_of_pos _ (by omega)
    exact ok_beq (modI (by omega)) (ok_beq (ixO_ok h1 h2) (ok_beq (modI hl) (ok_some ⟨Int.emod_nonneg _ (by omega), Int.emod_lt_of_pos _ hl⟩)))
/-- a place in the row -/
def Sp (sp : List Int) : Prop := ∃ s : Int, 0 ≤ s ∧ sp = [s]
theorem sp0 : Sp [0] := ⟨0, by omega, rfl⟩
theorem take_ok {row sp : List Int} {lim : Int} (hr : row ≠ []) (hs : Sp sp) (hl : 0 < lim) : Ok (g__law_take row sp lim) fun z => (0 ≤ z.1 ∧ z.1 < lim) ∧ Sp z.2 := by
  obtain ⟨s, hs, rfl⟩ := hs
  unfold g__law_take
  refine ok_beq (v := s) rfl (ok_beq (v := [s + 1]) rfl (ok_beq (v := s + 1) rfl ?_))
  rw [Int.add_sub_cancel]
  exact ok_bind (draw_ok hr hs hl) fun v hv => ok_some ⟨hv, s + 1, by omega, rfl⟩
theorem numbers_ok {ns : List Int} (hn : ns.length ≤ 63) : Ok (g__law_numbers ns) fun row => row ≠ [] := by
  unfold g__law_numbers
  have hc : cut ns none (some (63 : Int)) = ns := by rw [cut_to _ (by omega), List.take_of_length_le (by omega)]
  rw [hc]
  refine ok_bfold (fun i s => s.length ≤ 60 * i) (by simp) (fun i x s hx hs => ?_) (fun s hs => ?_)
  · have hi : i < 63 := by have := (List.getElem?_eq_some_iff.mp hx).1; omega
    refine ok_ite (fun _ => ?_) fun _ => ?_
    · refine ok_beq (rngO_ok (by omega) (by omega) (by omega) (by omega)) ?_
      refine ok_bfor (fun j s2 => s2.1.length ≤ s.length + j) (fun s2 => s2.1.length ≤ s.length + 60) (fun _ => False) (by simp) (fun j y s2 hy hs2 => ?_) (fun s2 hs2 => by rw [rgI_len] at hs2; omega) (fun s2 hs2 => ok_some (by omega)) (fun _ h => absurd h id)
      obtain ⟨rfl, hj⟩ := rg0_get hy
      refine ok_ite (fun _ => ok_some (show _ ≤ _ by dsimp; omega)) fun _ => ok_beq (pushO_ok (by omega)) (ok_some (show _ ≤ _ by simp; omega))
    · refine ok_beq (rngO_ok (by omega) (by omega) (by omega) (by omega)) ?_
      refine ok_bfold (fun j s2 => s2.length ≤ s.length + j) (by simp) (fun j y s2 hy hs2 => ?_) (fun s2 hs2 => ok_some (by rw [rgI_len] at hs2; omega))
      obtain ⟨rfl, hj⟩ := rg0_get hy
      exact ok_beq (pushO_ok (by omega)) (ok_some (by simp; omega))
  · refine ok_bind (P := fun row => row ≠ []) (ok_ite (fun _ => ok_beq (pushO_ok (by omega)) (ok_some (by simp))) fun h => ok_some fun z => by subst z; simp at h) fun v hv => ok_some hv
theorem within_eq (v lo hi : Int) : g_is_within v lo hi = some (decide (lo ≤ v ∧ v ≤ hi)) := by
  unfold g_is_within g_is_integer
  by_cases h : v < lo <;> simp [h] <;> omega
theorem within_n {v lo : Int} (h : lo ≤ v) : g_is_within_n v lo () = some true := by
  unfold g_is_within_n g_is_integer
  simp; omega
theorem need_int {v lo hi a : Int} (h : lo ≤ v ∧ v ≤ hi) : g_need_integer v lo hi a = some v := by
  unfold g_need_integer; simp [within_eq, h]
theorem need_int_n {v lo a : Int} (h : lo ≤ v) : g_need_integer_n v lo () a = some v := by
  unfold g_need_integer_n; simp [within_n h]
theorem need_t (a : Int) : g_need true a = some () := rfl
theorem pick_li {row sp things : List Int} (hr : row ≠ []) (hs : Sp sp) (ht : things ≠ []) : Ok (g__law_pick_li_wi_li row sp things) fun z => z.1 ∈ things ∧ Sp z.2 := by
  have hpos : 0 < things.length := List.length_pos_iff.mpr ht
  unfold g__law_pick_li_wi_li
  exact ok_bind (take_ok hr hs (by omega)) fun z hz => ok_beq (ixO_ok hz.1.1 hz.1.2) (ok_some ⟨nth_mem hz.1.1 hz.1.2, hz.2⟩)
theorem figure_ok {row sp : List Int} {many : Int} (hr : row ≠ []) (hs : Sp sp) (h0 : 0 ≤ many) (h1 : many ≤ 100000) : Ok (g__law_figure_li_wi row sp many) fun z => z.1.Perm (rangeI 0 many) ∧ Sp z.2 := by
  unfold g__law_figure_li_wi
  refine ok_beq (rngO_ok (by omega) (by omega) (by omega) (by omega)) ?_
  refine ok_beq (mapG_ok (by rw [rgI_len]; omega)) ?_
  refine ok_beq (rngO_ok (by omega) (by omega) (by omega) (by omega)) ?_
  rw [show (rangeI 0 many).map (fun x2 : Int => x2) = rangeI 0 many from List.map_id _]
  refine ok_bfold (fun i s => Sp s.1 ∧ s.2.2.length = i ∧ (s.2.1 ++ s.2.2).Perm (rangeI 0 many)) ⟨hs, rfl, by simp⟩ (fun i x s hx hP => ?_) (fun s hP => ?_)
  · obtain ⟨p1, p2, p3⟩ := hP
    obtain ⟨rfl, hi⟩ := rg0_get hx
    have hlen := p3.length_eq
    rw [List.length_append, rgI_len] at hlen
    have nd : (s.2.1 ++ s.2.2).Nodup := p3.nodup_iff.mpr (rgI_nd _ _)
    have nd1 := (List.nodup_append.mp nd).1
    refine ok_bind (pick_li hr p1 (fun z => by rw [z] at hlen; simp at hlen; omega)) fun z hz => ?_
    refine ok_beq (pushO_ok (by omega)) (ok_beq (filG_ok (by omega)) (ok_some ⟨hz.2, by simp [p2], ?_⟩))
    rw [show (s.2.1.filter fun x11 => !decide (x11 = z.1)).map (fun x11 : Int => x11) = s.2.1.filter fun x11 => !decide (x11 = z.1) from List.map_id _]
    refine List.Perm.trans ?_ p3
    refine List.Perm.trans ?_ ((fil_ne_perm nd1 hz.1).append_right _)
    rw [← List.append_assoc]
    exact List.perm_append_comm.trans (.refl _)
  · obtain ⟨p1, p2, p3⟩ := hP
    have hlen := p3.length_eq
    rw [List.length_append, rgI_len] at hlen
    rw [rgI_len] at p2
    have : s.2.1 = [] := List.eq_nil_of_length_eq_zero (by omega)
    rw [this, List.nil_append] at p3
    exact ok_some ⟨p3, p1⟩
theorem gcd_ok {a b : Int} {m : Nat} (hm : m < 20000) (h : a.natAbs * b.natAbs < 2 ^ m) : g__law_gcd a b = some ((Nat.gcd a.natAbs b.natAbs : Nat) : Int) := by
  have main : Ok (g__law_gcd a b) fun v => v = ((Nat.gcd a.natAbs b.natAbs : Nat) : Int) := by
    unfold g__law_gcd
    have ea : (if decide ((0 : Int) ≤ a) = true then a else -a) = (a.natAbs : Int) := by
      by_cases z : 0 ≤ a
      · rw [if_pos (by simpa using z)]; omega
      · rw [if_neg (by simpa using z)]; omega
    have eb : (if decide ((0 : Int) ≤ b) = true then b else -b) = (b.natAbs : Int) := by
      by_cases z : 0 ≤ b
      · rw [if_pos (by simpa using z)]; omega
      · rw [if_neg (by simpa using z)]; omega
    rw [ea, eb]
    refine ok_beq (rngO_ok (by omega) (by omega) (by omega) (by omega)) ?_
    have hlen : (rangeI 0 20000).length = 20000 := rgI_len _ _
    generalize rangeI 0 20000 = xs at hlen
    refine ok_bfor (fun i s => ∃ x y : Nat, s = ((x : Int), (y : Int)) ∧ Nat.gcd x y = Nat.gcd a.natAbs b.natAbs ∧ x * y * 2 ^ i ≤ 2 * (a.natAbs * b.natAbs) ∧ (i = 0 ∧ x * y ≤ a.natAbs * b.natAbs ∨ y < x)) (fun s => s.1 = ((Nat.gcd a.natAbs b.natAbs : Nat) : Int)) (fun _ => False) ⟨_, _, rfl, rfl, by simp; omega, .inl ⟨rfl, Nat.le_refl _⟩⟩ ?_ ?_ (fun s hs => ok_some hs) (fun _ h => absurd h id)
    · rintro i k s hk ⟨x, y, rfl, h1, h2, h3⟩
      refine ok_ite (fun z => ok_some ?_) fun z => ?_
      · have : y = 0 := by
          have : (y : Int) = 0 := by simpa using z
          omega
        subst this
        show (x : Int) = _
        rw [← h1, Nat.gcd_zero_right]
      · have hy : 0 < y := by
          have : ¬ (y : Int) = 0 := by simpa using z
          omega
        refine ok_beq (modI (show (0 : Int) < (y : Int) by omega)) (ok_some ⟨y, x % y, by simp, ?_, ?_, .inr (Nat.mod_lt _ hy)⟩)
        · rw [Nat.gcd_comm, ← Nat.gcd_rec, Nat.gcd_comm]; exact h1
        · have hmod := Nat.mod_lt x hy
          by_cases c : y ≤ x
          · have q : y + x % y ≤ x := by
              have := Nat.div_add_mod x y
              have : 1 ≤ x / y := Nat.div_pos c hy
              have : y * 1 ≤ y * (x / y) := Nat.mul_le_mul_left _ this
              omega
            have q2 : 2 * (y * (x % y)) ≤ x * y := by
              have := Nat.mul_le_mul_right y (show 2 * (x % y) ≤ x by omega)
              rw [Nat.mul_assoc, Nat.mul_comm (x % y) y] at this
              exact this
            refine Nat.le_trans ?_ h2
            rw [Nat.pow_succ, Nat.mul_comm (2 ^ i) 2, ← Nat.mul_assoc, Nat.mul_comm _ 2]
            exact Nat.mul_le_mul_right _ q2
          · have i0 : i = 0 := by omega
            subst i0
            rw [Nat.mod_eq_of_lt (by omega), Nat.mul_comm y x]
            rcases h3 with h3 | h3
            · simp only [Nat.zero_add, Nat.pow_one]; omega
            · omega
    · rintro s ⟨x, y, rfl, h1, h2, h3⟩
      rw [hlen] at h2 h3
      have : x * y = 0 := by
        cases e : x * y with
        | zero => rfl
        | succ n =>
          rw [e] at h2
          have l1 : 2 ^ (m + 1) ≤ 2 ^ 20000 := Nat.pow_le_pow_right (by omega) (by omega)
          have l2 : 1 * 2 ^ 20000 ≤ (n + 1) * 2 ^ 20000 := Nat.mul_le_mul_right _ (by omega)
          rw [Nat.pow_succ] at l1
          generalize 2 ^ 20000 = W at *
          omega
      have y0 : y = 0 := by
        rcases h3 with h3 | h3
        · omega
        · rcases Nat.mul_eq_zero.mp this with z | z <;> omega
      subst y0
      show (x : Int) = _
      rw [← h1, Nat.gcd_zero_right]
  exact ok_of main
theorem red_ok {n d : Int} {m : Nat} (hm : m < 20000) (hd : 0 < d) (hd2 : d < 2 ^ 64) (h : n.natAbs * d.natAbs < 2 ^ m) : ∃ z, g__law_red_2 n d = some z ∧ Red z ∧ z.1 * d = n * z.2 ∧ z.2 ≤ d := by
  obtain ⟨r1, r2, r3, r4⟩ := red_div (n := n) hd
  refine ⟨_, ?_, r1, r2, Int.ediv_le_self _ (by omega)⟩
  unfold g__law_red_2
  rw [if_neg (by simp; omega), gcd_ok hm h, Option.bind_some, if_neg (by simp; omega), divI r3 (by omega), Option.bind_some, divI r3 (by omega), Option.bind_some]
end Tw
set_option Elab.async false
set_option linter.all false
set_option maxRecDepth 100000
set_option maxHeartbeats 1000000
/-! Counting draws. -/
namespace Tw
open PySem Ev
/-- so many of so many -/
def cho : Nat → Nat → Nat
  | _, 0 => 1
  | 0, _ + 1 => 0
  | n + 1, k + 1 => cho n k + cho n (k + 1)
/-- a product of k factors, from n down -/
def ff : Nat → Nat → Nat
  | _, 0 => 1
  | n, k + 1 => n * ff (n - 1) k
theorem cho_0 (n : Nat) : cho n 0 = 1 := by cases n <;> rfl
theorem cho_s (n k : Nat) : cho (n + 1) (k + 1) = cho n k + cho n (k + 1) := rfl
theorem cho_big : ∀ {n k : Nat}, n < k → cho n k = 0
  | _, 0, h => by omega
  | 0, _ + 1, _ => rfl
  | n + 1, k + 1, h => by rw [cho_s, cho_big (show n < k by omega), cho_big (show n < k + 1 by omega)]
theorem cho_self : ∀ n : Nat, cho n n = 1
  | 0 => rfl
  | n + 1 => by rw [cho_s, cho_self n, cho_big (Nat.lt_succ_self n)]
theorem cho_pos : ∀ {n k : Nat}, k ≤ n → 0 < cho n k
  | n, 0, _ => by rw [cho_0]; omega
  | 0, _ + 1, h => by omega
  | n + 1, k + 1, h => by have := cho_pos (show k ≤ n by omega); rw [cho_s]; omega
theorem cho_mul : ∀ n k : Nat, (k + 1) * cho (n + 1) (k + 1) = (n + 1) * cho n k
  | 0, 0 => rfl
  | 0, k + 1 => by rw [cho_big (show 0 + 1 < k + 1 + 1 by omega), cho_big (show 0 < k + 1 by omega)]; simp
  | n + 1, 0 => by
    have := cho_mul n 0
    rw [cho_s (n + 1) 0, Nat.mul_add, this, cho_0, cho_0]; omega
  | n + 1, k + 1 => by
    have h1 := cho_mul n k
    have h2 := cho_mul n (k + 1)
    have e1 := cho_s n k
    rw [cho_s (n + 1) (k + 1), Nat.mul_add, h2]
    rw [show (k + 1 + 1) * cho (n + 1) (k + 1) = (k + 1) * cho (n + 1) (k + 1) + cho (n + 1) (k + 1) by rw [Nat.add_mul (k + 1) 1, Nat.one_mul], h1, e1]
    rw [show (n + 1 + 1) * (cho n k + cho n (k + 1)) = (n + 1) * cho n k + (n + 1) * cho n (k + 1) + (cho n k + cho n (k + 1)) by rw [Nat.add_mul (n + 1) 1, Nat.one_mul, Nat.mul_add]]
    omega
/-- from one to the next -/
theorem cho_next (n k : Nat) : (k + 1) * cho n (k + 1) = (n - k) * cho n k := by
  cases n with
  | zero => simp [cho]
  | succ n =>
    by_cases h : k ≤ n + 1
    · have h1 := cho_mul n k
      have e : (n + 1) * cho (n + 1) (k + 1) = (n + 1) * cho n k + (n + 1) * cho n (k + 1) := by rw [cho_s, Nat.mul_add]
      cases k with
      | zero => rw [h1, cho_0, cho_0]; omega
      | succ k =>
        have h2 := cho_mul n k
        have h3 : cho (n + 1) (k + 1) = cho n k + cho n (k + 1) := cho_s n k
        rw [h1]
        have h4 : (n + 1 - (k + 1)) * cho (n + 1) (k + 1) + (k + 1) * cho (n + 1) (k + 1) = (n + 1) * cho (n + 1) (k + 1) := by rw [← Nat.add_mul]; congr 1; omega
        rw [h2, h3, Nat.mul_add (n + 1)] at h4
        rw [h3]
        omega
    · rw [cho_big (show n + 1 < k + 1 by omega), show n + 1 - k = 0 by omega]; simp
theorem ff_0 (n : Nat) : ff n 0 = 1 := by unfold ff; rfl
theorem ff_s (n k : Nat) : ff n (k + 1) = n * ff (n - 1) k := by conv => lhs; unfold ff
theorem ff_last : ∀ (k n : Nat), ff n (k + 1) = ff n k * (n - k)
  | 0, n => by rw [ff_s, ff_0, ff_0]; simp
  | k + 1, n => by
    rw [ff_s, ff_last k (n - 1), ff_s n k, Nat.mul_assoc, show n - 1 - k = n - (k + 1) by omega]
theorem ff_big : ∀ {k n : Nat}, n < k → ff n k = 0
  | 0, _, h => by omega
  | k + 1, n, h => by
    rw [ff_last]
    by_cases e : n < k
    · rw [ff_big e, Nat.zero_mul]
    · rw [show n - k = 0 by omega, Nat.mul_zero]
theorem ff_pos : ∀ {k n : Nat}, k ≤ n → 0 < ff n k
  | 0, n, _ => by rw [ff_0]; omega
  | k + 1, n, h => by
    rw [ff_last]
    exact Nat.mul_pos (ff_pos (by omega)) (by omega)
theorem cho_ff : ∀ (k n : Nat), cho n k * ff k k = ff n k
  | 0, n => by rw [cho_0, ff_0, ff_0]
  | k + 1, n => by
    rw [ff_last k n, ← cho_ff k n, ff_s k.succ k, show k.succ - 1 = k by omega]
    have := cho_next n k
    rw [← Nat.mul_assoc, show cho n (k + 1) * k.succ = (n - k) * cho n k by rw [Nat.mul_comm]; exact this]
    rw [Nat.mul_comm (n - k), Nat.mul_assoc, Nat.mul_comm (n - k), Nat.mul_assoc]
theorem ff_le : ∀ (k : Nat) {m n : Nat}, m ≤ n → ff m k ≤ ff n k
  | 0, m, n, _ => by rw [ff_0, ff_0]; omega
  | k + 1, m, n, h => by rw [ff_s, ff_s]; exact Nat.mul_le_mul h (ff_le k (by omega))
theorem cho_le (k : Nat) {m n : Nat} (h : m ≤ n) : cho m k ≤ cho n k := by
  have h1 := cho_ff k m
  have h2 := cho_ff k n
  have h3 := ff_le k h
  exact Nat.le_of_mul_le_mul_right (by omega) (ff_pos (Nat.le_refl k))
theorem ff_add : ∀ (j k n : Nat), ff n (j + k) = ff n j * ff (n - j) k
  | 0, k, n => by rw [ff_0, Nat.zero_add, Nat.one_mul]; rfl
  | j + 1, k, n => by
    rw [show j + 1 + k = j + k + 1 by omega, ff_s, ff_add j k (n - 1), ff_s n j, Nat.mul_assoc, show n - 1 - j = n - (j + 1) by omega]
theorem cho_sym {n k : Nat} (h : k ≤ n) : cho n (n - k) = cho n k := by
  have a := cho_ff k n
  have b := cho_ff (n - k) n
  have c : ff n n = ff n k * ff (n - k) (n - k) := by
    have := ff_add k (n - k) n
    rwa [show k + (n - k) = n by omega] at this
  have d : ff n n = ff n (n - k) * ff k k := by
    have := ff_add (n - k) k n
    rwa [show n - k + k = n by omega, show n - (n - k) = k by omega] at this
  have p1 := ff_pos (Nat.le_refl k)
  have p2 := ff_pos (Nat.le_refl (n - k))
  have e : cho n (n - k) * (ff (n - k) (n - k) * ff k k) = cho n k * (ff (n - k) (n - k) * ff k k) := by
    rw [← Nat.mul_assoc, b, ← d, c, ← a, Nat.mul_assoc, Nat.mul_comm (ff k k)]
  exact Nat.eq_of_mul_eq_mul_right (Nat.mul_pos p2 p1) e
/-- who is drawn, who is wrong: either way round -/
theorem cho_swap {N K n : Nat} (h1 : K ≤ N) (h2 : n ≤ N) : cho N K * cho (N - K) n = cho N n * cho (N - n) K := by
  have a := cho_ff K N
  have b := cho_ff n (N - K)
  have c := cho_ff n N
  have d := cho_ff K (N - n)
  have e1 := ff_add K n N
  have e2 := ff_add n K N
  rw [Nat.add_comm] at e2
  have p := Nat.mul_pos (ff_pos (Nat.le_refl K)) (ff_pos (Nat.le_refl n))
  have q : cho N K * cho (N - K) n * (ff K K * ff n n) = cho N n * cho (N - n) K * (ff K K * ff n n) := by
    have l : cho N K * cho (N - K) n * (ff K K * ff n n) = (cho N K * ff K K) * (cho (N - K) n * ff n n) := Nat.mul_mul_mul_comm ..
    have r : cho N n * cho (N - n) K * (ff K K * ff n n) = (cho N n * ff n n) * (cho (N - n) K * ff K K) := by
      rw [Nat.mul_comm (ff K K)]; exact Nat.mul_mul_mul_comm ..
    rw [l, r, a, b, c, d, ← e1, ← e2]
  exact Nat.eq_of_mul_eq_mul_right p q
/-! ### sums -/
def sumN (f : Nat → Nat) : Nat → Nat
  | 0 => 0
  | n + 1 => sumN f n + f n
theorem sumN_front (f : Nat → Nat) : ∀ n : Nat, sumN f (n + 1) = f 0 + sumN (fun i => f (i + 1)) n
  | 0 => by simp [sumN]
  | n + 1 => by
    rw [sumN, sumN_front f n, sumN]; omega
theorem sumN_add (f g : Nat → Nat) : ∀ n : Nat, sumN (fun i => f i + g i) n = sumN f n + sumN g n
  | 0 => rfl
  | n + 1 => by rw [sumN, sumN, sumN, sumN_add f g n]; omega
theorem sumN_mul (c : Nat) (f : Nat → Nat) : ∀ n : Nat, sumN (fun i => c * f i) n = c * sumN f n
  | 0 => rfl
  | n + 1 => by rw [sumN, sumN, sumN_mul c f n, Nat.mul_add]
theorem sumN_congr {f g : Nat → Nat} : ∀ {n : Nat}, (∀ i, i < n → f i = g i) → sumN f n = sumN g n
  | 0, _ => rfl
  | n + 1, h => by rw [sumN, sumN, sumN_congr (n := n) fun i hi => h i (by omega), h n (by omega)]
theorem sumN_zero {f : Nat → Nat} : ∀ {m n : Nat}, m ≤ n → (∀ i, m ≤ i → i < n → f i = 0) → sumN f n = sumN f m
  | m, 0, h, _ => by rw [show m = 0 by omega]
  | m, n + 1, h, z => by
    by_cases e : m = n + 1
    · rw [e]
    · rw [sumN, z n (by omega) (by omega), Nat.add_zero]
      exact sumN_zero (by omega) fun i h1 h2 => z i h1 (by omega)
/-- draws that find k -/
def hy (K M n k : Nat) : Nat := cho K k * cho M (n - k)
theorem vander : ∀ (K M n : Nat), sumN (hy K M n) (n + 1) = cho (K + M) n
  | 0, M, n => by
    rw [sumN_zero (m := 1) (by omega) fun i h1 h2 => by unfold hy; rw [cho_big (by omega), Nat.zero_mul], Nat.zero_add]
    simp [sumN, hy, cho_0]
  | K + 1, M, 0 => by simp [sumN, hy, cho_0]
  | K + 1, M, n + 1 => by
    have h1 := vander K M n
    have h2 := vander K M (n + 1)
    rw [sumN_front] at h2 ⊢
    have e : sumN (fun i => hy (K + 1) M (n + 1) (i + 1)) (n + 1) = sumN (hy K M n) (n + 1) + sumN (fun i => hy K M (n + 1) (i + 1)) (n + 1) := by
      rw [← sumN_add]
      refine sumN_congr fun i hi => ?_
      unfold hy
      rw [cho_s, Nat.add_mul, show n + 1 - (i + 1) = n - i by omega]
    have e0 : hy (K + 1) M (n + 1) 0 = hy K M (n + 1) 0 := by unfold hy; rw [cho_0, cho_0]
    rw [e, e0, h1, show K + 1 + M = K + M + 1 by omega, cho_s, ← h2]
    omega
/-- all that is found in all draws -/
theorem vmean (K M n : Nat) : (K + M) * sumN (fun k => k * hy K M n k) (n + 1) = K * n * cho (K + M) n := by
  cases K with
  | zero =>
    rw [sumN_zero (m := 1) (by omega) fun i h1 h2 => by unfold hy; rw [cho_big (show 0 < i by omega), Nat.zero_mul, Nat.mul_zero]]
    simp [sumN]
  | succ K =>
    cases n with
    | zero => simp [sumN]
    | succ n =>
      rw [sumN_front, Nat.zero_mul, Nat.zero_add]
      have e : sumN (fun i => (i + 1) * hy (K + 1) M (n + 1) (i + 1)) (n + 1) = (K + 1) * cho (K + M) n := by
        rw [← vander, ← sumN_mul]
        refine sumN_congr fun i hi => ?_
        unfold hy
        rw [← Nat.mul_assoc, cho_mul, show n + 1 - (i + 1) = n - i by omega, Nat.mul_assoc]
      have m := cho_mul (K + M) n
      rw [e, show K + 1 + M = K + M + 1 by omega, ← Nat.mul_assoc, Nat.mul_comm (K + M + 1) (K + 1), Nat.mul_assoc, ← m, Nat.mul_assoc]
/-! ### the peak -/
theorem hy_next {K M n k : Nat} (h : k < n) : hy K M n (k + 1) * ((k + 1) * (M - (n - (k + 1)))) = hy K M n k * ((K - k) * (n - k)) := by
  obtain ⟨j, rfl⟩ : ∃ j, n = k + 1 + j := ⟨n - (k + 1), by omega⟩
  unfold hy
  rw [show k + 1 + j - (k + 1) = j by omega, show k + 1 + j - k = j + 1 by omega]
  have a := cho_next K k
  have b := cho_next M j
  have l : cho K (k + 1) * cho M j * ((k + 1) * (M - j)) = ((k + 1) * cho K (k + 1)) * ((M - j) * cho M j) := by
    rw [Nat.mul_mul_mul_comm, Nat.mul_comm (cho K (k + 1)), Nat.mul_comm (cho M j)]
  have r : cho K k * cho M (j + 1) * ((K - k) * (j + 1)) = ((K - k) * cho K k) * ((j + 1) * cho M (j + 1)) := by
    rw [Nat.mul_mul_mul_comm, Nat.mul_comm (cho K k), Nat.mul_comm (cho M (j + 1))]
  rw [l, r, a, b]
theorem hy_up {K M n k : Nat} (h1 : k < n) (h2 : k < K) (h : (k + 1) * (K + M + 2) < (K + 1) * (n + 1)) : hy K M n k ≤ hy K M n (k + 1) ∧ (0 < hy K M n (k + 1) → hy K M n k < hy K M n (k + 1)) := by
  have e := hy_next (K := K) (M := M) h1
  have b0 : 0 < (K - k) * (n - k) := Nat.mul_pos (by omega) (by omega)
  have ab : (k + 1) * (M - (n - (k + 1))) < (K - k) * (n - k) := by
    by_cases q : n - (k + 1) ≤ M
    · obtain ⟨x, rfl⟩ : ∃ x, n = k + 1 + x := ⟨n - (k + 1), by omega⟩
      obtain ⟨y, rfl⟩ : ∃ y, K = k + 1 + y := ⟨K - (k + 1), by omega⟩
      obtain ⟨z, rfl⟩ : ∃ z, M = x + z := ⟨M - x, by omega⟩
      rw [show x + z - (k + 1 + x - (k + 1)) = z by omega, show k + 1 + y - k = y + 1 by omega, show k + 1 + x - k = x + 1 by omega]
      have i1 : (k + 1 + y + 1) * (k + 1 + x + 1) = (k + 1) * (k + 1) + (k + 1) * (x + 1) + (y + 1) * (k + 1) + (y + 1) * (x + 1) := by
        rw [show k + 1 + y + 1 = (k + 1) + (y + 1) by omega, show k + 1 + x + 1 = (k + 1) + (x + 1) by omega, Nat.add_mul, Nat.mul_add (k + 1) (k + 1) (x + 1), Nat.mul_add (y + 1) (k + 1) (x + 1)]; omega
      have i2 : (k + 1) * (k + 1 + y + (x + z) + 2) = (k + 1) * (k + 1) + (k + 1) * (x + 1) + (k + 1) * (y + 1) + (k + 1) * z := by
        rw [← Nat.mul_add, ← Nat.mul_add, ← Nat.mul_add]; congr 1; omega
      have i3 := Nat.mul_comm (k + 1) (y + 1)
      omega
    · rw [show M - (n - (k + 1)) = 0 by omega, Nat.mul_zero]; exact b0
  generalize (k + 1) * (M - (n - (k + 1))) = a at e ab
  generalize (K - k) * (n - k) = b at e ab b0
  refine ⟨?_, fun p => ?_⟩
  · have : hy K M n (k + 1) * a ≤ hy K M n (k + 1) * b := Nat.mul_le_mul_left _ (by omega)
    exact Nat.le_of_mul_le_mul_right (by omega) b0
  · have : hy K M n (k + 1) * a < hy K M n (k + 1) * b := Nat.mul_lt_mul_of_pos_left ab p
    exact Nat.lt_of_mul_lt_mul_right (a := b) (by omega)
theorem hy_down {K M n k : Nat} (h1 : k < n) (h2 : k < K) (h : (K + 1) * (n + 1) ≤ (k + 1) * (K + M + 2)) : hy K M n (k + 1) ≤ hy K M n k := by
  have e := hy_next (K := K) (M := M) h1
  have b0 : 0 < (K - k) * (n - k) := Nat.mul_pos (by omega) (by omega)
  have ab : (K - k) * (n - k) ≤ (k + 1) * (M - (n - (k + 1))) := by
    obtain ⟨x, rfl⟩ : ∃ x, n = k + 1 + x := ⟨n - (k + 1), by omega⟩
    obtain ⟨y, rfl⟩ : ∃ y, K = k + 1 + y := ⟨K - (k + 1), by omega⟩
    have i1 : (k + 1 + y + 1) * (k + 1 + x + 1) = (k + 1) * (k + 1) + (k + 1) * (x + 1) + (y + 1) * (k + 1) + (y + 1) * (x + 1) := by
      rw [show k + 1 + y + 1 = (k + 1) + (y + 1) by omega, show k + 1 + x + 1 = (k + 1) + (x + 1) by omega, Nat.add_mul, Nat.mul_add (k + 1) (k + 1) (x + 1), Nat.mul_add (y + 1) (k + 1) (x + 1)]; omega
    have i2 : (k + 1) * (k + 1 + y + M + 2) = (k + 1) * (k + 1) + (k + 1) * (y + 1) + (k + 1) * (M + 1) := by
      rw [← Nat.mul_add, ← Nat.mul_add]; congr 1; omega
    have i3 := Nat.mul_comm (k + 1) (y + 1)
    rw [show k + 1 + x - (k + 1) = x by omega, show k + 1 + y - k = y + 1 by omega, show k + 1 + x - k = x + 1 by omega]
    by_cases q : x ≤ M
    · obtain ⟨z, rfl⟩ : ∃ z, M = x + z := ⟨M - x, by omega⟩
      have i4 : (k + 1) * (x + z + 1) = (k + 1) * (x + 1) + (k + 1) * z := by rw [← Nat.mul_add]; congr 1; omega
      rw [show x + z - x = z by omega]
      omega
    · have i5 : (k + 1) * (M + 1) ≤ (k + 1) * (x + 1) := Nat.mul_le_mul_left _ (by omega)
      have i6 : 0 < (y + 1) * (x + 1) := Nat.mul_pos (by omega) (by omega)
      omega
  generalize (k + 1) * (M - (n - (k + 1))) = a at e ab
  generalize (K - k) * (n - k) = b at e ab b0
  have : hy K M n (k + 1) * b ≤ hy K M n (k + 1) * a := Nat.mul_le_mul_left _ ab
  exact Nat.le_of_mul_le_mul_right (by omega) b0
end Tw
set_option Elab.async false
set_option linter.all false
set_option maxRecDepth 100000
set_option maxHeartbeats 1000000
/-! What is answered about draws. -/
namespace Tw
open PySem Ev
/-! ### great numbers -/
theorem mulB {a b : Int} (ha : a.natAbs < 2 ^ 4000) (hb : b.natAbs < 2 ^ 4000) : binI .Mult a b = some (a * b) := by
  have l : (2 : Nat) ^ 4000 ≤ 2 ^ 400000 := Nat.pow_le_pow_right (by omega) (by omega)
  show (if MulOk a b then some (a * b) else none) = _
  rw [if_pos (.inr (.inr ⟨Nat.lt_of_lt_of_le ha l, Nat.lt_of_lt_of_le hb l⟩))]
theorem divB {a b : Int} (h : 0 < b) (hb : b.natAbs < 2 ^ 9000) : binI .FloorDiv a b = some (a / b) := by
  show (if DivOk a b then some (a / b) else none) = _
  rw [if_pos ⟨h, hb⟩]
theorem ff_two {n : Nat} (h : n ≤ 256) : ∀ k : Nat, ff n k ≤ 2 ^ (8 * k)
  | 0 => by rw [ff_0]; exact Nat.two_pow_pos _
  | k + 1 => by
    rw [ff_last, show 8 * (k + 1) = 8 * k + 8 by omega, Nat.pow_add]
    exact Nat.mul_le_mul (ff_two h k) (by omega)
theorem cho_le_ff (n k : Nat) : cho n k ≤ ff n k := by
  rw [← cho_ff]
  exact Nat.le_mul_of_pos_right _ (ff_pos (Nat.le_refl k))
theorem big {k : Nat} (h : k ≤ 200) : (2 : Nat) ^ (8 * k) ≤ 2 ^ 1600 := Nat.pow_le_pow_right (by omega) (by omega)
theorem ff_big2 {n k : Nat} (h : n ≤ 256) (hk : k ≤ 200) : ff n k ≤ 2 ^ 1600 := Nat.le_trans (ff_two h k) (big hk)
theorem cho_big2 {n k : Nat} (h : n ≤ 256) (hk : k ≤ 200) : cho n k ≤ 2 ^ 1600 := Nat.le_trans (cho_le_ff n k) (ff_big2 h hk)
theorem p16 : (2 : Nat) ^ 1600 < 2 ^ 4000 := Nat.pow_lt_pow_right (by omega) (by omega)
theorem p9 : (2 : Nat) ^ 1600 < 2 ^ 9000 := Nat.pow_lt_pow_right (by omega) (by omega)
/-- two that are small enough -/
theorem mulC {a b : Int} (ha : a.natAbs ≤ 2 ^ 1600) (hb : b.natAbs ≤ 2 ^ 1600) : binI .Mult a b = some (a * b) := mulB (Nat.lt_of_le_of_lt ha p16) (Nat.lt_of_le_of_lt hb p16)
/-! ### binomials -/
theorem fp_ff (n : Nat) : ∀ k : Nat, k ≤ n → Builtin.Math.fallingProduct (n : Int) k = (ff n k : Int)
  | 0, _ => by rw [ff_0]; rfl
  | k + 1, h => by
    rw [PySem.W.mc_fp_succ, fp_ff n k (by omega), ff_last, Int.natCast_mul]
    congr 1
    omega
theorem comb_ok {a b : Nat} (ha : a ≤ 1000) (hb : b ≤ 1000) : combO (a : Int) (b : Int) = some (cho a b : Int) := by
  unfold combO
  rw [if_pos ⟨by omega, by omega, by omega, by omega⟩]
  congr 1
  by_cases h : b ≤ a
  · obtain ⟨m, hm, e⟩ : ∃ m : Nat, min (b : Int) ((a : Int) - b) = m ∧ cho a b = cho a m ∧ m ≤ a := by
      by_cases q : b ≤ a - b
      · exact ⟨b, by omega, rfl, h⟩
      · exact ⟨a - b, by omega, (cho_sym h).symm, by omega⟩
    rw [PySem.W.mcComb_at (by omega) (by omega) hm, e.1, Int.toNat_natCast, fp_ff a m e.2, fp_ff m m (Nat.le_refl _), ← cho_ff m a, Int.natCast_mul]
    exact Int.mul_ediv_cancel _ (by have := ff_pos (Nat.le_refl m); omega)
  · rw [PySem.W.mcComb_above (by omega), cho_big (by omega)]; rfl
/-! ### fractions -/
theorem frac_ok {n d : Int} (hd : 0 < d) (hb : d.natAbs < 2 ^ 9000) : ∃ z, g_fraction n d = some z ∧ Red z ∧ z.1 * d = n * z.2 ∧ z.2 ≤ d := by
  obtain ⟨r1, r2, r3, r4⟩ := red_div (n := n) hd
  refine ⟨_, ?_, r1, r2, Int.ediv_le_self _ (by omega)⟩
  have g : ((Nat.gcd n.natAbs d.natAbs : Nat) : Int).natAbs < 2 ^ 9000 := by
    have : ((Nat.gcd n.natAbs d.natAbs : Nat) : Int).natAbs ≤ d.natAbs := by omega
    exact Nat.lt_of_le_of_lt this hb
  unfold g_fraction
  rw [if_neg (by simp; omega), Option.bind_some, divB r3 g, Option.bind_some, divB r3 g, Option.bind_some]
theorem red_big {n d : Int} {m : Nat} (hm : m < 20000) (hd : 0 < d) (hd2 : d.natAbs < 2 ^ 9000) (h : n.natAbs * d.natAbs < 2 ^ m) : ∃ z, g__law_red_2 n d = some z ∧ Red z ∧ z.1 * d = n * z.2 ∧ z.2 ≤ d := by
  obtain ⟨r1, r2, r3, r4⟩ := red_div (n := n) hd
  refine ⟨_, ?_, r1, r2, Int.ediv_le_self _ (by omega)⟩
  have g : ((Nat.gcd n.natAbs d.natAbs : Nat) : Int).natAbs < 2 ^ 9000 := by
    have : ((Nat.gcd n.natAbs d.natAbs : Nat) : Int).natAbs ≤ d.natAbs := by omega
    exact Nat.lt_of_le_of_lt this hd2
  unfold g__law_red_2
  rw [if_neg (by simp; omega), gcd_ok hm h, Option.bind_some, if_neg (by simp; omega), divB r3 g, Option.bind_some, divB r3 g, Option.bind_some]
/-! ### lists and sums -/
theorem sum_sumN (f : Nat → Nat) (n : Nat) : ((rangeI 0 (n : Int)).map fun k => (f k.toNat : Int)).sum = (sumN f n : Int) := by
  induction n with
  | zero => rw [rgI_nil (by simp)]; rfl
  | succ n ih =>
    rw [show ((n + 1 : Nat) : Int) = (n : Int) + 1 by omega, rgI_succ (by omega), List.map_append, sum_app, ih, sumN]
    simp
section
variable {N K n : Nat}
theorem missed_ok (hN : N ≤ 200) (hK : K ≤ N) (hn : n ≤ N) : g_missed N K n = some ((ff (N - K) n : Int), (ff N n : Int)) := by
  unfold g_missed
  rw [rngO_ok (by omega) (by omega) (by omega) (by omega), Option.bind_some]
  have st := foldO_eq (f := fun (s2 : (Int × Int)) (x3 : Int) => ((binI .Mult s2.1 (max (0 : Int) (((N : Int) - (K : Int)) - x3))).bind fun y5 => (binI .Mult s2.2 ((N : Int) - x3)).bind fun y6 => some (y5, y6) : Option (Int × Int))) (fun i => ((ff (N - K) i : Int), (ff N i : Int))) (xs := rangeI 0 (n : Int)) fun i x hx => by
    obtain ⟨rfl, hi⟩ := rg0_get hx
    dsimp only
    rw [mulIr (by omega) (by omega), Option.bind_some, mulIr (by omega) (by omega), Option.bind_some, ff_last, ff_last, Int.natCast_mul, Int.natCast_mul]
    congr 3 <;> omega
  rw [rgI_len] at st
  have e0 : (((1 : Int), (1 : Int)) : Int × Int) = ((ff (N - K) 0 : Int), (ff N 0 : Int)) := by rw [ff_0, ff_0]; rfl
  rw [e0, st]
  simp
theorem counts_ok (hN : N ≤ 200) (hK : K ≤ N) (hn : n ≤ N) : g_counts N K n = some ((rangeI 0 ((min K n + 1 : Nat) : Int)).map fun k => (hy K (N - K) n k.toNat : Int)) := by
  unfold g_counts
  rw [show (min (K : Int) (n : Int)) + 1 = ((min K n + 1 : Nat) : Int) by omega, rngO_ok (by omega) (by omega) (by omega) (by omega), Option.bind_some]
  rw [mapO_ok (fun k => (hy K (N - K) n k.toNat : Int)) (by rw [rgI_len]; omega) (fun k hk => ?_)]
  · rfl
  · have hk := rgI_mem.mp hk
    obtain ⟨k, rfl⟩ := Int.eq_ofNat_of_zero_le hk.1
    unfold g_draws_with
    rw [comb_ok (by omega) (by omega), Option.bind_some, show (N : Int) - (K : Int) = ((N - K : Nat) : Int) by omega, show (n : Int) - (k : Int) = ((n - k : Nat) : Int) by omega, comb_ok (by omega) (by omega), Option.bind_some]
    have b1 := cho_big2 (n := K) (k := k) (by omega) (by omega)
    have b2 := cho_big2 (n := N - K) (k := n - k) (by omega) (by omega)
    rw [mulC (by rw [Int.natAbs_natCast]; exact b1) (by rw [Int.natAbs_natCast]; exact b2), Option.bind_some, Option.bind_some]
    unfold hy
    rw [Int.natCast_mul]; rfl
theorem all_counts (hK : K ≤ N) : sumN (hy K (N - K) n) (min K n + 1) = cho N n := by
  have v := vander K (N - K) n
  rw [show K + (N - K) = N by omega] at v
  rw [← v]
  refine (sumN_zero (by omega) fun i h1 h2 => ?_).symm
  unfold hy
  rw [cho_big (show K < i by omega), Nat.zero_mul]
theorem share_ok {z : Int × Int} {part whole : Int} (hr : Red z) (h : z.1 * whole = part * z.2) (h1 : z.1.natAbs ≤ 2 ^ 1600) (h2 : z.2.natAbs ≤ 2 ^ 1600) (h3 : part.natAbs ≤ 2 ^ 1600) (h4 : whole.natAbs ≤ 2 ^ 1600) : g_is_share z part whole = some true := by
  unfold g_is_share
  rw [if_pos (by have := hr.pos; simpa using this), if_pos (decide_eq_true (by rw [hr.one]; rfl)), mulC h1 h4, Option.bind_some, mulC h3 h2, Option.bind_some, h]
  simp
theorem draw_chk (h0 : 1 ≤ N) (hN : N ≤ 200) (hK : K ≤ N) (hn : n ≤ N) : g_check_draw N K n = some () := by
  unfold g_check_draw g_check_slips g_check_part g_meet_part
  rw [need_int (by omega), Option.bind_some, Option.bind_some, need_int_n (by omega), Option.bind_some, Option.bind_some, need_int_n (by omega), Option.bind_some, Option.bind_some]
  rw [show decide ((K : Int) ≤ (N : Int)) = true by simpa using hK, show decide ((n : Int) ≤ (N : Int)) = true by simpa using hn]
  rfl
/-- a chance -/
structure Chn (N K n : Nat) (z : Int × Int) : Prop where
  red : Red z
  eq : z.1 * (cho N n : Int) = ((cho N n : Int) - (cho (N - K) n : Int)) * z.2
  lo : 0 ≤ z.1
  le : z.1 ≤ z.2
  big : z.2.natAbs ≤ 2 ^ 1600
theorem chn_frac (hN : N ≤ 200) (hK : K ≤ N) (hn : n ≤ N) : ∃ z, g_fraction ((ff N n : Int) - (ff (N - K) n : Int)) (ff N n : Int) = some z ∧ Chn N K n z := by
  have p := ff_pos hn
  have l := ff_le n (show N - K ≤ N by omega)
  have b := ff_big2 (n := N) (k := n) (by omega) (by omega)
  obtain ⟨z, e, r, h, le⟩ := frac_ok (n := (ff N n : Int) - (ff (N - K) n : Int)) (d := (ff N n : Int)) (by omega) (by rw [Int.natAbs_natCast]; exact Nat.lt_of_le_of_lt b p9)
  have z2 := r.pos
  refine ⟨z, e, r, ?_, ?_, ?_, Nat.le_trans (by omega) b⟩
  · have c1 : (ff N n : Int) = (cho N n : Int) * (ff n n : Int) := by rw [← Int.natCast_mul, cho_ff]
    have c2 : (ff (N - K) n : Int) = (cho (N - K) n : Int) * (ff n n : Int) := by rw [← Int.natCast_mul, cho_ff]
    rw [c1, c2, ← Int.sub_mul, ← Int.mul_assoc, Int.mul_right_comm _ (ff n n : Int)] at h
    exact Int.eq_of_mul_eq_mul_right (by have := ff_pos (Nat.le_refl n); omega) h
  · have : 0 * (ff N n : Int) ≤ z.1 * (ff N n : Int) := by
      rw [Int.zero_mul, h]; exact Int.mul_nonneg (by omega) (by omega)
    exact Int.le_of_mul_le_mul_right this (by omega)
  · have : z.1 * (ff N n : Int) ≤ z.2 * (ff N n : Int) := by
      rw [h, Int.mul_comm z.2]; exact Int.mul_le_mul_of_nonneg_right (by omega) (by omega)
    exact Int.le_of_mul_le_mul_right this (by omega)
theorem chn_share (hN : N ≤ 200) (hK : K ≤ N) (hn : n ≤ N) {z : Int × Int} (h : Chn N K n z) : g_is_share z ((cut ((rangeI 0 ((min K n + 1 : Nat) : Int)).map fun k => (hy K (N - K) n k.toNat : Int)) (some (1 : Int)) none).sum) (((rangeI 0 ((min K n + 1 : Nat) : Int)).map fun k => (hy K (N - K) n k.toNat : Int)).sum) = some true := by
  have s := sum_sumN (hy K (N - K) n) (min K n + 1)
  rw [all_counts hK] at s
  have c : (cut ((rangeI 0 ((min K n + 1 : Nat) : Int)).map fun k => (hy K (N - K) n k.toNat : Int)) (some (1 : Int)) none).sum = (cho N n : Int) - (cho (N - K) n : Int) := by
    rw [cut_from _ (by omega)]
    generalize hL : (rangeI 0 ((min K n + 1 : Nat) : Int)).map (fun k => (hy K (N - K) n k.toNat : Int)) = L at s
    cases L with
    | nil =>
      have := congrArg List.length hL
      rw [List.length_map, rgI_len] at this
      simp at this
    | cons a r =>
      have a0 : a = (cho (N - K) n : Int) := by
        have e : nth (a :: r) 0 = a := rfl
        rw [← e, ← hL, nth_map (by omega) (by rw [rgI_len]; omega), rgI_nth (by omega) (by omega)]
        simp [hy, cho_0]
      rw [show (1 : Int).toNat = 1 from rfl, List.drop_succ_cons, List.drop_zero]
      rw [List.sum_cons] at s
      omega
  rw [c, s]
  have b := cho_big2 (n := N) (k := n) (by omega) (by omega)
  have l := cho_le n (show N - K ≤ N by omega)
  have := h.lo
  have := h.le
  refine share_ok h.red h.eq (Nat.le_trans (by omega) h.big) h.big (Nat.le_trans (by omega) b) (by rw [Int.natAbs_natCast]; exact b)
theorem chance_ok (h0 : 1 ≤ N) (hN : N ≤ 200) (hK : K ≤ N) (hn : n ≤ N) : ∃ z, g_chance_found N K n = some z ∧ Chn N K n z := by
  obtain ⟨z, e, h⟩ := chn_frac hN hK hn
  refine ⟨z, ?_, h⟩
  unfold g_chance_found g_found_chance g_is_chance
  rw [draw_chk h0 hN hK hn, Option.bind_some, missed_ok hN hK hn, Option.bind_some]
  dsimp only
  rw [e, Option.bind_some, Option.bind_some, counts_ok hN hK hn, Option.bind_some, chn_share hN hK hn h]
  rfl
/-- a mean -/
theorem mean_ok (h0 : 1 ≤ N) (hN : N ≤ 200) (hK : K ≤ N) (hn : n ≤ N) : ∃ z, g_mean_found N K n = some z ∧ Red z ∧ z.1 * (N : Int) = ((K * n : Nat) : Int) * z.2 ∧ z.2 ≤ N := by
  have kn : K * n ≤ 200 * 200 := Nat.mul_le_mul (by omega) (by omega)
  obtain ⟨z, e, r, h, le⟩ := frac_ok (n := ((K * n : Nat) : Int)) (d := (N : Int)) (by omega) (by
    have : (N : Int).natAbs ≤ 2 ^ 1600 := by
      have : (2 : Nat) ^ 8 ≤ 2 ^ 1600 := Nat.pow_le_pow_right (by omega) (by omega)
      omega
    exact Nat.lt_of_le_of_lt this p9)
  refine ⟨z, ?_, r, h, le⟩
  have z2 := r.pos
  have z1 : 0 ≤ z.1 := by
    have : 0 * (N : Int) ≤ z.1 * (N : Int) := by
      rw [Int.zero_mul, h]; exact Int.mul_nonneg (by omega) (by omega)
    exact Int.le_of_mul_le_mul_right this (by omega)
  have z3 : z.1 ≤ ((K * n : Nat) : Int) * z.2 := by
    rw [← h]
    have := Int.mul_le_mul_of_nonneg_left (show (1 : Int) ≤ (N : Int) by omega) z1
    omega
  have z4 : ((K * n : Nat) : Int) * z.2 ≤ 40000 * 200 := Int.mul_le_mul (by omega) (by omega) (by omega) (by omega)
  have t24 : (2 : Nat) ^ 24 ≤ 2 ^ 1600 := Nat.pow_le_pow_right (by omega) (by omega)
  have s := sum_sumN (hy K (N - K) n) (min K n + 1)
  rw [all_counts hK] at s
  have vm := vmean K (N - K) n
  rw [show K + (N - K) = N by omega] at vm
  have tail : sumN (fun k => k * hy K (N - K) n k) (n + 1) = sumN (fun k => k * hy K (N - K) n k) (min K n + 1) := sumN_zero (by omega) fun i h1 h2 => by
    unfold hy
    rw [cho_big (show K < i by omega), Nat.zero_mul, Nat.mul_zero]
  rw [tail] at vm
  have b := cho_big2 (n := N) (k := n) (by omega) (by omega)
  have en : enumI ((rangeI 0 ((min K n + 1 : Nat) : Int)).map fun k => (hy K (N - K) n k.toNat : Int)) = (rangeI 0 ((min K n + 1 : Nat) : Int)).map fun k => (k, (hy K (N - K) n k.toNat : Int)) := by
    apply List.ext_getElem?
    intro i
    by_cases hi : i < min K n + 1
    · have l1 : i < ((rangeI 0 ((min K n + 1 : Nat) : Int)).map fun k => (hy K (N - K) n k.toNat : Int)).length := by rw [List.length_map, rgI_len]; omega
      have l2 : i < (rangeI 0 ((min K n + 1 : Nat) : Int)).length := by rw [rgI_len]; omega
      have l3 : (rangeI 0 ((min K n + 1 : Nat) : Int))[i]'l2 = (i : Int) := by
        have := rgI_nth (a := 0) (b := ((min K n + 1 : Nat) : Int)) (i := (i : Int)) (by omega) (by omega)
        rw [nth_nat l2] at this
        omega
      rw [en_at l1, nth_map (by omega) (by rw [rgI_len]; omega), rgI_nth (by omega) (by omega), List.getElem?_map, List.getElem?_eq_getElem l2, l3]
      simp
    · rw [List.getElem?_eq_none (by rw [en_len, List.length_map, rgI_len]; omega), List.getElem?_eq_none (by rw [List.length_map, rgI_len]; omega)]
  have hyb : ∀ k, k < min K n + 1 → hy K (N - K) n k ≤ cho N n := fun k hk => by
    rw [← all_counts hK]
    generalize min K n + 1 = m at hk
    induction m with
    | zero => omega
    | succ m ih =>
      rw [sumN]
      by_cases q : k = m
      · subst q; omega
      · have := ih (by omega); omega
  have m1 : (mapO (enumI ((rangeI 0 ((min K n + 1 : Nat) : Int)).map fun k => (hy K (N - K) n k.toNat : Int))) fun (x2 : (Int × Int)) => ((binI .Mult x2.1 x2.2).bind fun y3 => some y3 : Option Int)) = some ((rangeI 0 ((min K n + 1 : Nat) : Int)).map fun k => ((k.toNat * hy K (N - K) n k.toNat : Nat) : Int)) := by
    rw [mapO_ok (fun x : Int × Int => x.1 * x.2) (by rw [en_len, List.length_map, rgI_len]; omega) (fun x hx => ?_), en, List.map_map]
    · congr 1
      refine List.map_congr_left fun k hk => ?_
      have hk := rgI_mem.mp hk
      simp only [Function.comp_apply]
      rw [Int.natCast_mul, Int.toNat_of_nonneg hk.1]
    · rw [en] at hx
      obtain ⟨k, hk, rfl⟩ := List.mem_map.mp hx
      have hk := rgI_mem.mp hk
      dsimp only
      rw [mulI (by omega) (by omega)]; rfl
  unfold g_mean_found g_mean_of g_is_mean
  rw [draw_chk h0 hN hK hn, Option.bind_some, mulI (by omega) (by omega), Option.bind_some, ← Int.natCast_mul, e, Option.bind_some, Option.bind_some, counts_ok hN hK hn, Option.bind_some, m1, Option.bind_some, sum_sumN (fun j => j * hy K (N - K) n j), s]
  have eq : z.1 * (cho N n : Int) = (sumN (fun k => k * hy K (N - K) n k) (min K n + 1) : Int) * z.2 := by
    have v2 : (N : Int) * (sumN (fun k => k * hy K (N - K) n k) (min K n + 1) : Int) = ((K * n : Nat) : Int) * (cho N n : Int) := by
      rw [← Int.natCast_mul, vm, Int.natCast_mul]
    refine Int.eq_of_mul_eq_mul_right (show (N : Int) ≠ 0 by omega) ?_
    rw [Int.mul_right_comm, h, Int.mul_right_comm _ z.2 (N : Int), Int.mul_comm _ (N : Int), v2, Int.mul_right_comm]
  have vb : sumN (fun k => k * hy K (N - K) n k) (min K n + 1) ≤ 2 ^ 1600 := by
    have : N * sumN (fun k => k * hy K (N - K) n k) (min K n + 1) ≤ N * (2 ^ 1600) := by
      rw [vm]
      have q1 : K * n * cho N n ≤ N * (n * cho N n) := by rw [Nat.mul_assoc]; exact Nat.mul_le_mul_right _ hK
      have q2 : n * cho N n ≤ 2 ^ 1600 := by
        cases n with
        | zero => simp
        | succ m =>
          cases N with
          | zero => omega
          | succ N' =>
            rw [cho_mul]
            have := cho_big2 (n := N') (k := m) (by omega) (by omega)
            have t1 : cho N' m ≤ 2 ^ 1592 := by
              have := Nat.le_trans (cho_le_ff N' m) (ff_two (n := N') (by omega) m)
              exact Nat.le_trans this (Nat.pow_le_pow_right (by omega) (by omega))
            have t2 : (2 : Nat) ^ 1600 = 2 ^ 8 * 2 ^ 1592 := by rw [← Nat.pow_add]
            rw [t2]
            exact Nat.mul_le_mul (by omega) t1
      exact Nat.le_trans q1 (Nat.mul_le_mul_left _ q2)
    exact Nat.le_of_mul_le_mul_left this (by omega)
  rw [share_ok r eq (Nat.le_trans (by omega) t24) (Nat.le_trans (by omega) t24) (by rw [Int.natAbs_natCast]; exact vb) (by rw [Int.natAbs_natCast]; exact b)]
  rfl
end
end Tw
set_option Elab.async false
set_option linter.all false
set_option maxRecDepth 100000
set_option maxHeartbeats 1000000
/-! The likeliest number, the least number of looks, heaps. -/
namespace Tw
open PySem Ev
theorem idx_of {α : Type} [DecidableEq α] {x : α} : ∀ {xs : List α} {p : Nat}, p < xs.length → xs[p]? = some x → (∀ j, j < p → xs[j]? ≠ some x) → xs.idxOf x = p
  | [], p, h, _, _ => by simp at h
  | a :: r, 0, _, h, _ => by
    have : a = x := by simpa using h
    subst this
    simp
  | a :: r, p + 1, h, h1, h2 => by
    have ne : a ≠ x := fun z => h2 0 (by omega) (by simp [z])
    have ih := idx_of (xs := r) (p := p) (by simpa using h) (by simpa using h1) fun j hj => by
      have := h2 (j + 1) (by omega)
      simpa using this
    have nb : (a == x) = false := by simpa using ne
    rw [List.idxOf_cons, nb, ih]; rfl
/-- the first greatest one -/
theorem peak_list {f : Int → Int} {m p : Nat} (hp : p < m) (h1 : ∀ j : Nat, j < p → f j < f p) (h2 : ∀ j : Nat, p < j → j < m → f j ≤ f p) : maxO ((rangeI 0 (m : Int)).map f) = some (f p) ∧ idxO (f p) ((rangeI 0 (m : Int)).map f) = some (p : Int) := by
  have len : ((rangeI 0 (m : Int)).map f).length = m := by rw [List.length_map, rgI_len]; omega
  have at_ : ∀ j, j < m → ((rangeI 0 (m : Int)).map f)[j]? = some (f j) := fun j hj => by
    have l : j < ((rangeI 0 (m : Int)).map f).length := by omega
    have e := nth_nat l
    rw [nth_map (by omega) (by rw [rgI_len]; omega), rgI_nth (by omega) (by omega), Int.zero_add] at e
    rw [List.getElem?_eq_getElem l, e]
  have mem : f p ∈ (rangeI 0 (m : Int)).map f := List.mem_of_getElem? (at_ p hp)
  obtain ⟨v, e1, e2, e3⟩ := maxO_ok (xs := (rangeI 0 (m : Int)).map f) (List.ne_nil_of_mem mem)
  have v1 := e3 _ mem
  have v2 : v ≤ f p := by
    obtain ⟨k, hk, rfl⟩ := List.mem_map.mp e2
    have hk := rgI_mem.mp hk
    obtain ⟨j, rfl⟩ := Int.eq_ofNat_of_zero_le hk.1
    by_cases q : j < p
    · exact Int.le_of_lt (h1 j q)
    · by_cases q2 : p < j
      · exact h2 j q2 (by omega)
      · have : j = p := by omega
        subst this; exact Int.le_refl _
  have : v = f p := by omega
  subst this
  refine ⟨e1, ?_⟩
  rw [idxO_ok mem, idx_of (p := p) (by omega) (at_ p hp) fun j hj z => ?_]
  rw [at_ j (by omega)] at z
  have := Option.some.inj z
  have := h1 j hj
  omega
section
variable {N K n : Nat}
/-- the likeliest -/
def pk (N K n : Nat) : Nat := ((K + 1) * (n + 1) - 1) / (N + 2)
theorem pk_iff (k : Nat) : k < pk N K n ↔ (k + 1) * (N + 2) < (K + 1) * (n + 1) := by
  unfold pk
  have : 0 < (K + 1) * (n + 1) := Nat.mul_pos (by omega) (by omega)
  rw [show k < ((K + 1) * (n + 1) - 1) / (N + 2) ↔ k + 1 ≤ ((K + 1) * (n + 1) - 1) / (N + 2) from Iff.rfl, Nat.le_div_iff_mul_le (by omega)]
  omega
theorem pk_le (hK : K ≤ N) (hn : n ≤ N) : pk N K n ≤ K ∧ pk N K n ≤ n := by
  constructor
  · by_cases h : K < pk N K n
    · have := (pk_iff K).mp h
      have : (K + 1) * (n + 1) ≤ (K + 1) * (N + 2) := Nat.mul_le_mul_left _ (by omega)
      omega
    · omega
  · by_cases h : n < pk N K n
    · have := (pk_iff n).mp h
      have : (K + 1) * (n + 1) ≤ (N + 2) * (n + 1) := Nat.mul_le_mul_right _ (by omega)
      rw [Nat.mul_comm (N + 2)] at this
      omega
    · omega
theorem pk_sym : pk N n K = pk N K n := by unfold pk; rw [Nat.mul_comm]
theorem up (hK : K ≤ N) (hn : n ≤ N) {k : Nat} (h : k < pk N K n) : hy K (N - K) n k ≤ hy K (N - K) n (k + 1) ∧ (0 < hy K (N - K) n (k + 1) → hy K (N - K) n k < hy K (N - K) n (k + 1)) := by
  have := pk_le hK hn
  refine hy_up (by omega) (by omega) ?_
  rw [show K + (N - K) + 2 = N + 2 by omega]
  exact (pk_iff k).mp h
theorem down (hK : K ≤ N) {k : Nat} (h : pk N K n ≤ k) (h1 : k < n) (h2 : k < K) : hy K (N - K) n (k + 1) ≤ hy K (N - K) n k := by
  refine hy_down (by omega) (by omega) ?_
  rw [show K + (N - K) + 2 = N + 2 by omega]
  have := pk_iff (N := N) (K := K) (n := n) k
  omega
theorem ups (hK : K ≤ N) (hn : n ≤ N) : ∀ d k : Nat, k + d ≤ pk N K n → hy K (N - K) n k ≤ hy K (N - K) n (k + d)
  | 0, k, _ => Nat.le_refl _
  | d + 1, k, h => Nat.le_trans (ups hK hn d k (by omega)) (up hK hn (show k + d < pk N K n by omega)).1
theorem downs (hK : K ≤ N) : ∀ d k : Nat, pk N K n ≤ k → k + d ≤ n → k + d ≤ K → hy K (N - K) n (k + d) ≤ hy K (N - K) n k
  | 0, k, _, _, _ => Nat.le_refl _
  | d + 1, k, h, h1, h2 => by
    have q := down (n := n) hK (k := k + d) (by omega) (by omega) (by omega)
    exact Nat.le_trans q (downs hK d k h (by omega) (by omega))
theorem pk_max (hK : K ≤ N) (hn : n ≤ N) {k : Nat} (h1 : k ≤ n) (h2 : k ≤ K) : hy K (N - K) n k ≤ hy K (N - K) n (pk N K n) := by
  by_cases q : k ≤ pk N K n
  · have := ups hK hn (pk N K n - k) k (by omega)
    rwa [show k + (pk N K n - k) = pk N K n by omega] at this
  · have := downs (n := n) hK (k - pk N K n) (pk N K n) (Nat.le_refl _) (by omega) (by omega)
    rwa [show pk N K n + (k - pk N K n) = k by omega] at this
theorem sumN_le {f : Nat → Nat} {c : Nat} : ∀ {m : Nat}, (∀ i, i < m → f i ≤ c) → sumN f m ≤ m * c
  | 0, _ => by simp [sumN]
  | m + 1, h => by
    have := sumN_le (m := m) fun i hi => h i (by omega)
    have := h m (by omega)
    rw [sumN, Nat.add_mul]; omega
theorem pk_pos (hK : K ≤ N) (hn : n ≤ N) : 0 < hy K (N - K) n (pk N K n) := by
  by_cases q : 0 < hy K (N - K) n (pk N K n)
  · exact q
  · exfalso
    have s := sumN_le (f := hy K (N - K) n) (c := 0) (m := min K n + 1) fun i hi => by
      have := pk_max hK hn (k := i) (by omega) (by omega)
      omega
    rw [all_counts hK] at s
    have := cho_pos hn
    omega
theorem pk_first (hK : K ≤ N) (hn : n ≤ N) {k : Nat} (h : k < pk N K n) : hy K (N - K) n k < hy K (N - K) n (pk N K n) := by
  have a := ups hK hn (pk N K n - 1 - k) k (by omega)
  have b := (up hK hn (show pk N K n - 1 < pk N K n by omega)).2
  rw [show k + (pk N K n - 1 - k) = pk N K n - 1 by omega] at a
  rw [show pk N K n - 1 + 1 = pk N K n by omega] at b
  have := b (pk_pos hK hn)
  omega
/-- so many right ones are left -/
theorem pk_low (hK : K ≤ N) (hn : n ≤ N) : n ≤ pk N K n + (N - K) := by
  have p := pk_pos hK hn
  by_cases q : n ≤ pk N K n + (N - K)
  · exact q
  · unfold hy at p
    rw [cho_big (show N - K < n - pk N K n by omega)] at p
    simp at p
theorem likely_ok (h0 : 1 ≤ N) (hN : N ≤ 200) (hK : K ≤ N) (hn : n ≤ N) : g_most_likely_found N K n = some (pk N K n : Int) := by
  have l := pk_le hK hn
  obtain ⟨e1, e2⟩ := peak_list (f := fun k => (hy K (N - K) n k.toNat : Int)) (m := min K n + 1) (p := pk N K n) (by omega) (fun j hj => by
    have := pk_first hK hn hj
    simp only [Int.toNat_natCast]; omega) fun j h1 h2 => by
    have := pk_max hK hn (k := j) (by omega) (by omega)
    simp only [Int.toNat_natCast]; omega
  have kn : (K + 1) * (n + 1) ≤ 201 * 201 := Nat.mul_le_mul (by omega) (by omega)
  have k0 : 0 < (K + 1) * (n + 1) := Nat.mul_pos (by omega) (by omega)
  have v : ((((K : Int) + 1) * ((n : Int) + 1)) - 1) / ((N : Int) + 2) = (pk N K n : Int) := by
    unfold pk
    rw [Int.natCast_ediv, Int.natCast_sub (by omega), Int.natCast_mul]
    rfl
  unfold g_most_likely_found g_peak_of g_is_peak
  rw [draw_chk h0 hN hK hn, Option.bind_some, mulI (by omega) (by omega), Option.bind_some, divI (by omega) (by omega), Option.bind_some, v, Option.bind_some, counts_ok hN hK hn, Option.bind_some, e1, Option.bind_some, e2, Option.bind_some]
  simp
  rfl
/-! ### the least looks -/
/-- so many looks are enough -/
def Eno (N K : Nat) (s : Int × Int) (i : Nat) : Prop := s.1 * (cho N i : Int) ≤ ((cho N i : Int) - (cho (N - K) i : Int)) * s.2
structure Sur (s : Int × Int) : Prop where
  red : Red s
  lo : 0 ≤ s.1
  le : s.1 ≤ s.2
  most : s.2 ≤ 1000
theorem sub_nn {i : Nat} : (0 : Int) ≤ (cho N i : Int) - (cho (N - K) i : Int) := by
  have := cho_le i (show N - K ≤ N by omega); omega
theorem looks_ok {s : Int × Int} (hs : Sur s) (hN : N ≤ 200) (hK : K ≤ N) : Ok (g_looks_for N K s) fun r => (r = none ∧ ∀ i, i ≤ N → ¬ Eno N K s i) ∨ ∃ L : Nat, r = some (L : Int) ∧ L ≤ N ∧ Eno N K s L ∧ ∀ i, i < L → ¬ Eno N K s i := by
  have s0 := hs.red.pos
  have s1 := hs.lo
  have s2 := hs.le
  have s3 := hs.most
  unfold g_looks_for
  refine ok_beq (rngO_ok (by omega) (by omega) (by omega) (by omega)) ?_
  refine ok_bfor (fun i z => (i ≤ N → z = ((ff (N - K) i : Int), (ff N i : Int))) ∧ ∀ j, j < i → ¬ Eno N K s j) (fun _ => ∀ i, i ≤ N → ¬ Eno N K s i) (fun r => ∃ L : Nat, r = some (L : Int) ∧ L ≤ N ∧ Eno N K s L ∧ ∀ i, i < L → ¬ Eno N K s i) ⟨fun _ => by rw [ff_0, ff_0]; rfl, fun j hj => by omega⟩ (fun i x z hx hz => ?_) (fun z hz i hi => ?_) (fun z hz => ok_some (.inl ⟨rfl, hz⟩)) (fun r hr => ok_some (.inr hr))
  · obtain ⟨rfl, hi⟩ := rg0_get hx
    have hiN : i ≤ N := by omega
    obtain ⟨h1, h2⟩ := hz
    have h1 := h1 hiN
    subst h1
    dsimp only
    refine ok_beq (mulIr (by omega) (by omega)) (ok_beq (mulI (by omega) (by omega)) ?_)
    have fi := ff_pos (Nat.le_refl i)
    have c1 : (ff N i : Int) = (cho N i : Int) * (ff i i : Int) := by rw [← Int.natCast_mul, cho_ff]
    have c2 : (ff (N - K) i : Int) = (cho (N - K) i : Int) * (ff i i : Int) := by rw [← Int.natCast_mul, cho_ff]
    have key : s.1 * (ff N i : Int) ≤ ((ff N i : Int) - (ff (N - K) i : Int)) * s.2 ↔ Eno N K s i := by
      unfold Eno
      rw [c1, c2, ← Int.sub_mul, ← Int.mul_assoc, Int.mul_right_comm _ (ff i i : Int)]
      exact ⟨fun h => Int.le_of_mul_le_mul_right h (by omega), fun h => Int.mul_le_mul_of_nonneg_right h (by omega)⟩
    refine ok_ite (fun z => ok_some ?_) fun z => ?_
    · exact ⟨i, rfl, hiN, key.mp (by simpa using z), h2⟩
    · have ne : ¬ Eno N K s i := fun q => by
        have := key.mpr q
        simp at z; omega
      refine ok_beq (mulIr (by omega) (by omega)) (ok_beq (mulIr (by omega) (by omega)) (ok_some ⟨fun q => ?_, fun j hj => ?_⟩))
      · rw [ff_last, ff_last, Int.natCast_mul, Int.natCast_mul]
        congr 2 <;> omega
      · by_cases q : j < i
        · exact h2 j q
        · have : j = i := by omega
          subst this; exact ne
  · rw [rgI_len] at hz
    exact hz.2 i (by omega)
theorem enough_ok {s : Int × Int} (hs : Sur s) (hN : N ≤ 200) (hK : K ≤ N) {i : Nat} (hi : i ≤ N) : ∃ b, g_is_enough N K i s = some b ∧ (b = true ↔ Eno N K s i) := by
  have s0 := hs.red.pos
  have s1 := hs.lo
  have s2 := hs.le
  have s3 := hs.most
  unfold g_is_enough
  rw [comb_ok (by omega) (by omega), Option.bind_some, show (N : Int) - (K : Int) = ((N - K : Nat) : Int) by omega, comb_ok (by omega) (by omega), Option.bind_some, mulIr (by omega) (by omega), Option.bind_some, mulI (by omega) (by omega), Option.bind_some]
  exact ⟨_, rfl, by unfold Eno; exact decide_eq_true_iff⟩
theorem sure_chk {s : Int × Int} (hs : Sur s) (a : Int) : g_check_sure s a = some s := by
  have s0 := hs.red.pos
  have s1 := hs.lo
  have s2 := hs.le
  have s3 := hs.most
  unfold g_check_sure g_need_fraction_pii g_need_sequence_pii g_is_sequence_pii
  have w1 : g_is_within s.1 (-1000000) 1000000 = some true := by rw [within_eq]; congr 1; exact decide_eq_true (by omega)
  have w2 : g_is_within s.2 1 1000000 = some true := by rw [within_eq]; congr 1; exact decide_eq_true (by omega)
  have w3 : g_is_within s.1 0 s.2 = some true := by rw [within_eq]; congr 1; exact decide_eq_true (by omega)
  have g1 : decide (((Nat.gcd s.1.natAbs s.2.natAbs : Nat) : Int) = 1) = true := decide_eq_true (by rw [hs.red.one]; rfl)
  rw [Option.bind_some, if_neg (by decide), if_neg (by decide), Option.bind_some, w1, Option.bind_some, if_neg (by decide), w2, Option.bind_some, Option.bind_some, if_neg (by decide), g1, if_neg (by decide), Option.bind_some, w3, Option.bind_some]
  rfl
theorem judge1 {s : Int × Int} (hs : Sur s) (hN : N ≤ 200) (hK : K ≤ N) (h : ∀ i, i ≤ N → ¬ Eno N K s i) : g_is_least_looked N K s none = some true := by
  unfold g_is_least_looked
  obtain ⟨b, e1, e2⟩ := enough_ok hs hN hK (i := N) (Nat.le_refl _)
  have : b = false := by
    cases b with
    | false => rfl
    | true => exact absurd (e2.mp rfl) (h N (Nat.le_refl _))
  subst this
  rw [if_pos Option.isNone_none, e1, Option.bind_some]; rfl
theorem eno2 {s : Int × Int} {L : Int} : g_is_enough_2 N K (some L) s = g_is_enough N K L s := by
  unfold g_is_enough_2 g_is_enough
  rw [Option.bind_some]
  congr 1
theorem judge2 {s : Int × Int} (hs : Sur s) (hN : N ≤ 200) (hK : K ≤ N) {L : Nat} (h1 : L ≤ N) (h2 : Eno N K s L) (h3 : ∀ i, i < L → ¬ Eno N K s i) : g_is_least_looked N K s (some (L : Int)) = some true := by
  unfold g_is_least_looked
  obtain ⟨b, e1, e2⟩ := enough_ok hs hN hK (i := L) h1
  have : b = true := e2.mpr h2
  subst this
  have e3 := eno2 (N := N) (K := K) (s := s) (L := (L : Int))
  have n1 : ¬ ((L : Int) < 0) := by omega
  have n2 : ¬ ((N : Int) < (L : Int)) := by omega
  rw [if_neg (by simp), Option.bind_some, if_neg (fun z => n1 (of_decide_eq_true z)), Option.bind_some, if_neg (fun z => n2 (of_decide_eq_true z)), e3, e1, Option.bind_some, Option.bind_some, Option.bind_some, if_neg (by simp)]
  by_cases q : L = 0
  · subst q
    rw [if_pos (by simp)]; rfl
  · obtain ⟨b, e4, e5⟩ := enough_ok hs hN hK (i := L - 1) (by omega)
    have : b = false := by
      cases b with
      | false => rfl
      | true => exact absurd (e5.mp rfl) (h3 (L - 1) (by omega))
    subst this
    rw [if_neg (by simp; omega), Option.bind_some, show (L : Int) - 1 = ((L - 1 : Nat) : Int) by omega, e4]; rfl
theorem least_ok {s : Int × Int} (hs : Sur s) (h0 : 1 ≤ N) (hN : N ≤ 200) (hK : K ≤ N) : ∃ r, g_least_looked N K s = some r ∧ ((r = none ∧ ∀ i, i ≤ N → ¬ Eno N K s i) ∨ ∃ L : Nat, r = some (L : Int) ∧ L ≤ N ∧ Eno N K s L ∧ ∀ i, i < L → ¬ Eno N K s i) := by
  obtain ⟨r, e, h⟩ := looks_ok hs hN hK
  refine ⟨r, ?_, h⟩
  have j : g_is_least_looked N K s r = some true := by
    rcases h with ⟨rfl, h⟩ | ⟨L, rfl, h1, h2, h3⟩
    · exact judge1 hs hN hK h
    · exact judge2 hs hN hK h1 h2 h3
  unfold g_least_looked g_check_slips g_check_part g_meet_part
  rw [need_int (by omega), Option.bind_some, Option.bind_some, need_int_n (by omega), Option.bind_some, Option.bind_some, sure_chk hs, Option.bind_some, show decide ((K : Int) ≤ (N : Int)) = true by simpa using hK, need_t, Option.bind_some, Option.bind_some, e, Option.bind_some, j]
  rfl
/-- enough, by the chance -/
theorem eno_chn {s z : Int × Int} (hs : Sur s) {i : Nat} (hi : i ≤ N) (hz : Chn N K i z) : Eno N K s i ↔ s.1 * z.2 ≤ z.1 * s.2 := by
  have c : (0 : Int) < (cho N i : Int) := by have := cho_pos hi; omega
  have z2 := hz.red.pos
  unfold Eno
  have e : z.1 * s.2 * (cho N i : Int) = ((cho N i : Int) - (cho (N - K) i : Int)) * s.2 * z.2 := by
    rw [Int.mul_right_comm, hz.eq, Int.mul_right_comm]
  have e2 : s.1 * z.2 * (cho N i : Int) = s.1 * (cho N i : Int) * z.2 := Int.mul_right_comm _ _ _
  constructor
  · intro h
    have := Int.mul_le_mul_of_nonneg_right h (show (0 : Int) ≤ z.2 by omega)
    rw [← e, ← e2] at this
    exact Int.le_of_mul_le_mul_right this c
  · intro h
    have := Int.mul_le_mul_of_nonneg_right h (show (0 : Int) ≤ (cho N i : Int) by omega)
    rw [e, e2] at this
    exact Int.le_of_mul_le_mul_right this z2
end
end Tw
set_option Elab.async false
set_option linter.all false
set_option maxRecDepth 100000
set_option maxHeartbeats 1000000
/-! Heaps. -/
namespace Tw
open PySem Ev
/-- the best way to place j, so many of them in a heap of m -/
def IsB (f : Nat → Option Int) (m j i : Nat) (v : Option Int) : Prop := (v = none ∧ ∀ h, h < i → f (j - h) = none) ∨ ∃ x, v = some x ∧ (∃ h a, h < i ∧ f (j - h) = some a ∧ x = a + 1 + (if 0 < h then (m : Int) else 0)) ∧ ∀ h a, h < i → f (j - h) = some a → a + 1 + (if 0 < h then (m : Int) else 0) ≤ x
theorem IsB.uniq {f : Nat → Option Int} {m j i : Nat} {v w : Option Int} (h1 : IsB f m j i v) (h2 : IsB f m j i w) : v = w := by
  rcases h1 with ⟨rfl, a⟩ | ⟨x, rfl, ⟨h, b, q1, q2, q3⟩, a⟩ <;> rcases h2 with ⟨rfl, c⟩ | ⟨y, rfl, ⟨h', b', p1, p2, p3⟩, c⟩
  · rfl
  · rw [a h' p1] at p2; cases p2
  · rw [c h q1] at q2; cases q2
  · have := a h' b' p1 p2
    have := c h b q1 q2
    congr 1; omega
def rowsOf (f : Nat → Option Int) (k : Nat) : List (Option Int) := (rangeI 0 ((k + 1 : Nat) : Int)).map fun j => f j.toNat
theorem rowsOf_len {f : Nat → Option Int} {k : Nat} : (rowsOf f k).length = k + 1 := by unfold rowsOf; rw [List.length_map, rgI_len]; omega
theorem rowsOf_nth {f : Nat → Option Int} {k j : Nat} (h : j ≤ k) : nth (rowsOf f k) (j : Int) = f j := by
  unfold rowsOf; rw [nth_map (by omega) (by rw [rgI_len]; omega), rgI_nth (by omega) (by omega)]; simp
theorem rowsOf_congr {f g : Nat → Option Int} {k : Nat} (h : ∀ j, j ≤ k → f j = g j) : rowsOf f k = rowsOf g k := by
  unfold rowsOf
  refine List.map_congr_left fun j hj => ?_
  have := rgI_mem.mp hj
  exact h _ (by omega)
theorem behind_ok {f g : Nat → Option Int} {k m : Nat} (hk : k ≤ 10) (hm : m ≤ 1000) (H : ∀ j, j ≤ k → IsB f m j (min j m + 1) (g j)) : g_behind_heap (rowsOf f k) m = some (rowsOf g k) := by
  have main : Ok (g_behind_heap (rowsOf f k) m) fun r => r = rowsOf g k := by
    unfold g_behind_heap
    rw [rowsOf_len]
    refine ok_beq (rngO_ok (by omega) (by omega) (by omega) (by omega)) ?_
    refine ok_bfold (fun i s => s = (rangeI 0 (i : Int)).map fun j => g j.toNat) (by rw [rgI_nil (by simp)]; rfl) (fun i x s hx hs => ?_) (fun s hs => by
      rw [rgI_len] at hs
      refine ok_some ?_
      rw [hs]; unfold rowsOf
      congr 2)
    obtain ⟨rfl, hi⟩ := rg0_get hx
    have hik : i ≤ k := by omega
    refine ok_beq (rngO_ok (by omega) (by omega) (by omega) (by omega)) ?_
    refine ok_bfold (fun n v => IsB f m i n v) (.inl ⟨rfl, fun h q => by omega⟩) (fun n y v hy hv => ?_) (fun v hv => ?_)
    · obtain ⟨rfl, hn⟩ := rg0_get hy
      have hn : n ≤ min i m := by omega
      refine ok_beq (v := f (i - n)) ?_ ?_
      · rw [show (i : Int) - (n : Int) = ((i - n : Nat) : Int) by omega, ixO_ok (by omega) (by rw [rowsOf_len]; omega), rowsOf_nth (by omega)]
      cases e : f (i - n) with
      | none =>
        refine ok_some ?_
        rcases hv with ⟨rfl, a⟩ | ⟨x, rfl, ⟨h, b, q1, q2, q3⟩, a⟩
        · refine .inl ⟨rfl, fun h q => ?_⟩
          by_cases z : h < n
          · exact a h z
          · have : h = n := by omega
            subst this; exact e
        · refine .inr ⟨x, rfl, ⟨h, b, by omega, q2, q3⟩, fun h' b' q p => ?_⟩
          by_cases z : h' < n
          · exact a h' b' z p
          · have : h' = n := by omega
            subst this
            rw [e] at p; cases p
      | some w =>
        have ec : (if decide ((0 : Int) < (n : Int)) = true then (m : Int) else 0) = if 0 < n then (m : Int) else 0 := by
          by_cases z : 0 < n
          · rw [if_pos (by simpa using z), if_pos z]
          · rw [if_neg (by simpa using z), if_neg z]
        refine ok_tt rfl (ok_beq (v := w) rfl ?_)
        rw [ec]
        rcases hv with ⟨rfl, a⟩ | ⟨x, rfl, ⟨h, b, q1, q2, q3⟩, a⟩
        · refine ok_beq (v := w + 1 + (if 0 < n then (m : Int) else 0)) rfl (ok_some (.inr ⟨_, rfl, ⟨n, w, by omega, e, rfl⟩, fun h' b' q p => ?_⟩))
          by_cases z : h' < n
          · rw [a h' z] at p; cases p
          · have : h' = n := by omega
            subst this
            rw [e] at p; cases p
            exact Int.le_refl _
        · refine ok_beq (v := max x (w + 1 + (if 0 < n then (m : Int) else 0))) rfl (ok_some (.inr ⟨_, rfl, ?_, fun h' b' q p => ?_⟩))
          · by_cases z : w + 1 + (if 0 < n then (m : Int) else 0) ≤ x
            · rw [Int.max_eq_left z]
              exact ⟨h, b, by omega, q2, q3⟩
            · rw [Int.max_eq_right (by omega)]
              exact ⟨n, w, by omega, e, rfl⟩
          · by_cases z : h' < n
            · have := a h' b' z p; omega
            · have : h' = n := by omega
              subst this
              rw [e] at p; cases p
              omega
    · rw [rgI_len] at hv
      have ln : (min (i : Int) (m : Int) + 1 - 0).toNat = min i m + 1 := by omega
      rw [ln] at hv
      have := hv.uniq (H i hik)
      subst this
      refine ok_beq (pushO_ok (by subst hs; rw [List.length_map, rgI_len]; omega)) (ok_some ?_)
      subst hs
      rw [show ((i + 1 : Nat) : Int) = (i : Int) + 1 by omega, rgI_succ (by omega), List.map_append]
      simp
  exact ok_of main
/-- t full heaps of s -/
def FF (t s j : Nat) : Option Int := if j ≤ t * s then some ((t + min j t * s : Nat) : Int) else none
/-- .. and a smaller one -/
def GG (t s r j : Nat) : Option Int := if j ≤ t * s + r then some ((t + 1 + (if j ≤ t then j * s else t * s + r) : Nat) : Int) else none
theorem FF_some {t s j : Nat} {a : Int} (h : FF t s j = some a) : j ≤ t * s ∧ a = ((t + min j t * s : Nat) : Int) := by
  unfold FF at h
  split at h
  · exact ⟨‹_›, (Option.some.inj h).symm⟩
  · cases h
theorem FF_at {t s j : Nat} (h : j ≤ t * s) : FF t s j = some ((t + min j t * s : Nat) : Int) := if_pos h
theorem ts_ge {t s : Nat} (hs : 1 ≤ s) : t ≤ t * s := Nat.le_mul_of_pos_right _ hs
theorem FF_step {t s : Nat} (hs : 1 ≤ s) (j : Nat) : IsB (FF t s) s j (min j s + 1) (FF (t + 1) s j) := by
  have e1 : (t + 1) * s = t * s + s := by rw [Nat.add_mul, Nat.one_mul]
  have tg := ts_ge (t := t) hs
  by_cases hj : j ≤ (t + 1) * s
  · refine .inr ⟨_, FF_at hj, ?_, fun h a q p => ?_⟩
    · by_cases j0 : j = 0
      · subst j0
        exact ⟨0, _, by omega, FF_at (by omega), by simp⟩
      · by_cases j1 : j - 1 ≤ t * s
        · refine ⟨1, _, by omega, FF_at j1, ?_⟩
          have e2 : min j (t + 1) * s = min (j - 1) t * s + s := by
            rw [show min j (t + 1) = min (j - 1) t + 1 by omega, Nat.add_mul, Nat.one_mul]
          rw [e2, if_pos (by omega)]; omega
        · refine ⟨j - t * s, _, by omega, FF_at (by omega), ?_⟩
          rw [show j - (j - t * s) = t * s by omega, show min (t * s) t = t by omega, show min j (t + 1) = t + 1 by omega, e1, if_pos (by omega)]; omega
    · obtain ⟨p1, rfl⟩ := FF_some p
      by_cases h0 : h = 0
      · subst h0
        have : min (j - 0) t * s ≤ min j (t + 1) * s := Nat.mul_le_mul_right _ (by omega)
        rw [if_neg (by omega)]; omega
      · have : (min (j - h) t + 1) * s ≤ min j (t + 1) * s := Nat.mul_le_mul_right _ (by omega)
        rw [Nat.add_mul, Nat.one_mul] at this
        rw [if_pos (by omega)]; omega
  · refine .inl ⟨if_neg hj, fun h q => if_neg (by omega)⟩
theorem GG_step {t s r : Nat} (hr : 1 ≤ r) (hrs : r < s) (j : Nat) : IsB (FF t s) r j (min j r + 1) (GG t s r j) := by
  have tg := ts_ge (t := t) (show 1 ≤ s by omega)
  by_cases hj : j ≤ t * s + r
  · refine .inr ⟨_, if_pos hj, ?_, fun h a q p => ?_⟩
    · by_cases jt : j ≤ t
      · refine ⟨0, _, by omega, FF_at (by omega), ?_⟩
        rw [if_pos jt, if_neg (by omega), show min (j - 0) t = j by omega]; omega
      · by_cases j1 : j - 1 ≤ t * s
        · refine ⟨1, _, by omega, FF_at j1, ?_⟩
          rw [if_neg jt, if_pos (by omega), show min (j - 1) t = t by omega]; omega
        · refine ⟨j - t * s, _, by omega, FF_at (by omega), ?_⟩
          rw [if_neg jt, if_pos (by omega), show j - (j - t * s) = t * s by omega, show min (t * s) t = t by omega]; omega
    · obtain ⟨p1, rfl⟩ := FF_some p
      by_cases jt : j ≤ t
      · rw [if_pos jt]
        by_cases h0 : h = 0
        · subst h0
          rw [if_neg (by omega), show min (j - 0) t = j by omega]; omega
        · have : (min (j - h) t + 1) * s ≤ j * s := Nat.mul_le_mul_right _ (by omega)
          rw [Nat.add_mul, Nat.one_mul] at this
          rw [if_pos (by omega)]; omega
      · rw [if_neg jt]
        have : min (j - h) t * s ≤ t * s := Nat.mul_le_mul_right _ (by omega)
        split <;> omega
  · refine .inl ⟨if_neg hj, fun h q => if_neg (by omega)⟩
/-- the heaps -/
def hps (N s : Nat) : List Int := List.replicate (N / s) (s : Int) ++ (if 0 < N % s then [((N % s : Nat) : Int)] else [])
/-- the most looks -/
def lk (N k s : Nat) : Int := ((hps N s).length : Int) + ((hps N s).take k).sum
theorem rep_sum (c : Int) : ∀ n : Nat, (List.replicate n c).sum = n * c
  | 0 => by simp
  | n + 1 => by rw [List.replicate_succ, List.sum_cons, rep_sum c n, Int.natCast_add, Int.add_mul]; simp; omega
theorem lk_full {t k s : Nat} (hs : 1 ≤ s) : lk (t * s) k s = ((t + min k t * s : Nat) : Int) := by
  unfold lk hps
  rw [Nat.mul_div_cancel _ (by omega), Nat.mul_mod_left, if_neg (by omega), List.append_nil, List.length_replicate, List.take_replicate, rep_sum]
  simp
theorem lk_rest {t k s r : Nat} (hr : 1 ≤ r) (hrs : r < s) : lk (t * s + r) k s = ((t + 1 + (if k ≤ t then k * s else t * s + r) : Nat) : Int) := by
  unfold lk hps
  rw [show (t * s + r) / s = t by rw [Nat.add_comm, Nat.add_mul_div_right _ _ (by omega), Nat.div_eq_of_lt hrs, Nat.zero_add], show (t * s + r) % s = r by rw [Nat.add_comm, Nat.add_mul_mod_self_right, Nat.mod_eq_of_lt hrs], if_pos (by omega)]
  rw [List.length_append, List.length_replicate, List.length_singleton, List.take_append, List.length_replicate, sum_app, List.take_replicate, rep_sum]
  by_cases h : k ≤ t
  · rw [if_pos h, show k - t = 0 by omega, show min k t = k by omega]
    simp
  · obtain ⟨d, e⟩ : ∃ d, k - t = d + 1 := ⟨k - t - 1, by omega⟩
    rw [if_neg h, e, show min k t = t by omega]
    simp
section
variable {N k s : Nat}
theorem sizes_ok (hN : N ≤ 200) (hs : 1 ≤ s) (hs2 : s ≤ 1000) : g_heap_sizes N s = some (hps N s) := by
  have dm := Nat.div_add_mod N s
  have dl : N / s ≤ N := Nat.div_le_self _ _
  have ed : (N : Int) / (s : Int) = ((N / s : Nat) : Int) := (Int.natCast_ediv ..).symm
  unfold g_heap_sizes hps
  rw [divI (by omega) (by omega), Option.bind_some, ed]
  generalize N / s = d at *
  generalize N % s = r at *
  rw [rpL1 (by omega) (by omega), Option.bind_some, Int.toNat_natCast, List.length_replicate, mulIr (by omega) (by omega), Option.bind_some]
  have e : (N : Int) - (s : Int) * (d : Int) = (r : Int) := by
    have : (s : Int) * (d : Int) = ((s * d : Nat) : Int) := by rw [Int.natCast_mul]
    omega
  rw [e]
  by_cases q : 0 < r
  · rw [if_pos (by simp; omega), if_pos q, pushO_ok (by rw [List.length_replicate]; omega)]; rfl
  · rw [if_neg (by simp; omega), if_neg q, List.append_nil]; rfl
theorem pooled_ok (h0 : 1 ≤ N) (hN : N ≤ 200) (hk : k ≤ 3) (hkN : k ≤ N) (hs : 1 ≤ s) (hsN : s ≤ N) : g_pooled N k s = some (lk N k s) := by
  have judge : g_is_most_looks N k s (lk N k s) = some true := by
    have main : Ok (g_is_most_looks N k s (lk N k s)) fun b => b = true := by
      unfold g_is_most_looks
      refine ok_beq (rpL1 (by omega) (by omega)) (ok_beq (catO_ok (by simp; omega)) ?_)
      refine ok_while (fun z => ((∃ t, t * s ≤ N ∧ z.2 = ((N - t * s : Nat) : Int) ∧ z.1 = rowsOf (FF t s) k) ∨ z.2 = 0 ∧ nth z.1 (k : Int) = some (lk N k s) ∧ z.1.length = k + 1)) (fun z => z.2.toNat) (fun z => nth z.1 (k : Int) = some (lk N k s) ∧ z.1.length = k + 1) (fun _ => False) (by dsimp only; omega) (.inl ⟨0, by omega, by simp, ?_⟩) (fun z hz => ?_) (fun z hz => ?_) (fun _ h => absurd h id)
      · refine ext_nth (by rw [rowsOf_len]; simp) fun i i0 i1 => ?_
        obtain ⟨j, rfl⟩ := Int.eq_ofNat_of_zero_le i0
        have jk : j ≤ k := by simp at i1; omega
        rw [rowsOf_nth jk]
        unfold FF
        cases j with
        | zero => simp [nth]
        | succ j =>
          rw [if_neg (by omega), nth_nat (by simp; omega)]
          simp
      · obtain ⟨rows, left⟩ := z
        dsimp only at hz ⊢
        refine ok_some ⟨fun q => ?_, fun q => ?_⟩
        · have q : ¬ 0 < left := by simpa using q
          rcases hz with ⟨t, z1, z2, z3⟩ | ⟨_, z⟩
          · have e : N = t * s := by omega
            subst z3
            refine ⟨?_, rowsOf_len⟩
            rw [rowsOf_nth (Nat.le_refl _), FF_at (by omega)]
            conv => rhs; rw [e]
            rw [lk_full hs]
          · exact z
        · have q : 0 < left := by simpa using q
          rcases hz with ⟨t, z1, z2, z3⟩ | ⟨z, _⟩
          · subst z3
            by_cases full : s ≤ N - t * s
            · refine ok_beq (v := rowsOf (FF (t + 1) s) k) ?_ (ok_some ⟨.inl ⟨t + 1, ?_, ?_, rfl⟩, ?_⟩)
              · rw [show min (s : Int) left = (s : Int) by omega]
                exact behind_ok (by omega) (by omega) fun j hj => FF_step hs j
              · rw [Nat.add_mul, Nat.one_mul]; omega
              · rw [Nat.add_mul, Nat.one_mul]; dsimp only; omega
              · dsimp only; omega
            · obtain ⟨r, hr⟩ : ∃ r, r = N - t * s := ⟨_, rfl⟩
              refine ok_beq (v := rowsOf (GG t s r) k) ?_ (ok_some ⟨.inr ⟨?_, ?_, rowsOf_len⟩, ?_⟩)
              · rw [show min (s : Int) left = (r : Int) by omega]
                exact behind_ok (by omega) (by omega) fun j hj => GG_step (by omega) (by omega) j
              · dsimp only; omega
              · rw [rowsOf_nth (Nat.le_refl _)]
                unfold GG
                rw [if_pos (by omega), show N = t * s + r by omega, lk_rest (by omega) (by omega)]
              · dsimp only; omega
          · omega
      · refine ok_beq (ixO_ok (by omega) (by omega)) (ok_some ?_)
        rw [hz.1]; simp
    exact ok_of main
  unfold g_pooled g_check_slips g_check_few g_check_size g_meet_part g_most_looks
  rw [need_int (by omega), Option.bind_some, Option.bind_some, need_int (by omega), Option.bind_some, Option.bind_some, need_int_n (by omega), Option.bind_some, Option.bind_some]
  rw [show decide ((k : Int) ≤ (N : Int)) = true by simpa using hkN, show decide ((s : Int) ≤ (N : Int)) = true by simpa using hsN, need_t, Option.bind_some, Option.bind_some, need_t, Option.bind_some, Option.bind_some, sizes_ok hN hs (by omega), Option.bind_some, cut_to _ (by omega), Int.toNat_natCast, Option.bind_some]
  have e : ((hps N s).length : Int) + ((hps N s).take k).sum = lk N k s := rfl
  rw [e, judge]; rfl
theorem lk_mono {k : Nat} : lk N k s ≤ lk N (k + 1) s := by
  unfold lk
  have : ((hps N s).take k).sum ≤ ((hps N s).take (k + 1)).sum := by
    rw [List.take_add_one, sum_app]
    have : 0 ≤ ((hps N s)[k]?.toList).sum := sum_nn fun x hx => by
      have hx : x ∈ hps N s := by
        cases e : (hps N s)[k]? with
        | none => rw [e] at hx; cases hx
        | some y =>
          rw [e] at hx
          have : x = y := by simpa using hx
          subst this
          exact List.mem_of_getElem? e
      unfold hps at hx
      rcases List.mem_append.mp hx with z | z
      · have := (List.mem_replicate.mp z).2; omega
      · split at z
        · have := List.mem_singleton.mp z; omega
        · cases z
    omega
  omega
end
end Tw
set_option Elab.async false
set_option linter.all false
set_option maxRecDepth 100000
set_option maxHeartbeats 4000000
/-! The law's fractions. -/
namespace Tw
open PySem Ev
/-- a fraction that is p / q -/
structure Rp (z : Int × Int) (p q : Int) : Prop where
  z0 : 0 < z.2
  q0 : 0 < q
  eq : z.1 * q = p * z.2
/-- not too great -/
structure Bd (k : Nat) (z : Int × Int) : Prop where
  a : z.1.natAbs ≤ 2 ^ k
  b : z.2.natAbs ≤ 2 ^ k
theorem Bd.mono {k l : Nat} {z : Int × Int} (h : Bd k z) (kl : k ≤ l) : Bd l z := ⟨Nat.le_trans h.a (Nat.pow_le_pow_right (by omega) kl), Nat.le_trans h.b (Nat.pow_le_pow_right (by omega) kl)⟩
section
variable {z w : Int × Int} {p q p' q' : Int}
theorem Rp.key (h : Rp z p q) (h' : Rp w p' q') : (z.1 * w.2) * (q * q') = (p * q') * (z.2 * w.2) ∧ (w.1 * z.2) * (q * q') = (p' * q) * (z.2 * w.2) := by
  have e1 := h.eq
  have e2 := h'.eq
  constructor
  · have : (z.1 * w.2) * (q * q') = (z.1 * q) * (w.2 * q') := by grind
    rw [this, e1]; grind
  · have : (w.1 * z.2) * (q * q') = (w.1 * q') * (z.2 * q) := by grind
    rw [this, e2]; grind
theorem Rp.lt (h : Rp z p q) (h' : Rp w p' q') : z.1 * w.2 < w.1 * z.2 ↔ p * q' < p' * q := by
  obtain ⟨k1, k2⟩ := h.key h'
  have c1 : 0 < q * q' := Int.mul_pos h.q0 h'.q0
  have c2 : 0 < z.2 * w.2 := Int.mul_pos h.z0 h'.z0
  constructor
  · intro l
    have := Int.mul_lt_mul_of_pos_right l c1
    rw [k1, k2] at this
    exact Int.lt_of_mul_lt_mul_right this (by omega)
  · intro l
    have := Int.mul_lt_mul_of_pos_right l c2
    rw [← k1, ← k2] at this
    exact Int.lt_of_mul_lt_mul_right this (by omega)
theorem Rp.same (h : Rp z p q) (h' : Rp w p' q') (r : Red z) (r' : Red w) (e : p * q' = p' * q) : z = w := by
  obtain ⟨k1, k2⟩ := h.key h'
  have c1 : 0 < q * q' := Int.mul_pos h.q0 h'.q0
  refine red_uniq r r' (Int.eq_of_mul_eq_mul_right (show q * q' ≠ 0 by omega) ?_)
  rw [k1, k2, e]
theorem Rp.eq_iff (h : Rp z p q) (h' : Rp w p' q') (r : Red z) (r' : Red w) : z = w ↔ p * q' = p' * q := by
  refine ⟨fun e => ?_, h.same h' r r'⟩
  subst e
  obtain ⟨k1, k2⟩ := h.key h'
  have c2 : 0 < z.2 * z.2 := Int.mul_pos h.z0 h.z0
  refine Int.eq_of_mul_eq_mul_right (show z.2 * z.2 ≠ 0 by omega) ?_
  rw [← k1, ← k2]
end
/-- any fraction of numbers of at most 3400 bits -/
theorem lred {n d : Int} {k l : Nat} (hd : 0 < d) (hn : n.natAbs ≤ 2 ^ k) (hd2 : d.natAbs ≤ 2 ^ l) (hk : k ≤ 3400) (hl : l ≤ 3400) : ∃ z, g__law_red_2 n d = some z ∧ Red z ∧ Rp z n d ∧ z.1.natAbs ≤ n.natAbs ∧ z.2.natAbs ≤ d.natAbs := by
  have hn' : n.natAbs ≤ 2 ^ 3400 := Nat.le_trans hn (Nat.pow_le_pow_right (by omega) hk)
  have hd' : d.natAbs ≤ 2 ^ 3400 := Nat.le_trans hd2 (Nat.pow_le_pow_right (by omega) hl)
  obtain ⟨z, e, r, h, le⟩ := red_big (n := n) (d := d) (m := 6801) (by omega) hd (Nat.lt_of_le_of_lt hd' (Nat.pow_lt_pow_right (by omega) (by omega))) (by
    have h := Nat.mul_le_mul hn' hd'
    rw [← Nat.pow_add] at h
    exact Nat.lt_of_le_of_lt h (Nat.pow_lt_pow_right (by omega) (by omega)))
  have z0 := r.pos
  refine ⟨z, e, r, ⟨z0, hd, h⟩, ?_, by omega⟩
  have e2 := congrArg Int.natAbs h
  rw [Int.natAbs_mul, Int.natAbs_mul] at e2
  have : n.natAbs * z.2.natAbs ≤ n.natAbs * d.natAbs := Nat.mul_le_mul_left _ (by omega)
  exact Nat.le_of_mul_le_mul_right (show z.1.natAbs * d.natAbs ≤ n.natAbs * d.natAbs by omega) (by omega)
theorem pw {k : Nat} (h : k < 4000) : (2 : Nat) ^ k < 2 ^ 4000 := Nat.pow_lt_pow_right (by omega) h
theorem mulK {a b : Int} {k : Nat} (h1 : a.natAbs ≤ 2 ^ k) (h2 : b.natAbs ≤ 2 ^ k) (hk : k < 4000) : binI .Mult a b = some (a * b) := mulB (Nat.lt_of_le_of_lt h1 (pw hk)) (Nat.lt_of_le_of_lt h2 (pw hk))
theorem abs_mul {a b : Int} {k l : Nat} (h1 : a.natAbs ≤ 2 ^ k) (h2 : b.natAbs ≤ 2 ^ l) : (a * b).natAbs ≤ 2 ^ (k + l) := by
  rw [Int.natAbs_mul, Nat.pow_add]; exact Nat.mul_le_mul h1 h2
section
variable {x y : Int × Int} {p q p' q' : Int} {k : Nat}
theorem less_ok (h1 : Bd k x) (h2 : Bd k y) (hk : k ≤ 1650) : g__law_less x y = some (decide (x.1 * y.2 < y.1 * x.2)) := by
  unfold g__law_less
  rw [mulK h1.a h2.b (by omega), Option.bind_some, mulK h2.a h1.b (by omega), Option.bind_some]
end
section
variable {N K n : Nat}
theorem Chn.rp {z : Int × Int} (h : Chn N K n z) (hn : n ≤ N) : Rp z ((cho N n : Int) - (cho (N - K) n : Int)) (cho N n : Int) := ⟨h.red.pos, by have := cho_pos hn; omega, h.eq⟩
theorem Chn.bd {z : Int × Int} (h : Chn N K n z) : Bd 1600 z := by
  have := h.lo
  have := h.le
  exact ⟨Nat.le_trans (by omega) h.big, h.big⟩
end
section
variable {N K n : Nat}
theorem hps_law {s : Nat} (h0 : 1 ≤ N) (hs : 1 ≤ s) : ∃ t : Nat, (N + s - 1) / s = t + 1 ∧ t * s ≤ N ∧ hps N s = List.replicate t (s : Int) ++ [((N - t * s : Nat) : Int)] := by
  have dm := Nat.div_add_mod N s
  have ml := Nat.mod_lt N (show 0 < s by omega)
  unfold hps
  rw [Nat.mul_comm] at dm
  by_cases q : 0 < N % s
  · refine ⟨N / s, ?_, by omega, ?_⟩
    · rw [show N + s - 1 = (N % s - 1) + (N / s + 1) * s by rw [Nat.add_mul]; omega, Nat.add_mul_div_right _ _ (by omega), Nat.div_eq_of_lt (by omega), Nat.zero_add]
    · rw [if_pos q, show N - N / s * s = N % s by omega]
  · obtain ⟨t, ht⟩ : ∃ t, N / s = t + 1 := ⟨N / s - 1, by
      have : N / s ≠ 0 := fun z => by rw [z] at dm; omega
      exact (Nat.succ_pred_eq_of_pos (Nat.pos_of_ne_zero this)).symm⟩
    have e : (t + 1) * s = t * s + s := by rw [Nat.add_mul, Nat.one_mul]
    rw [ht] at dm
    refine ⟨t, ?_, by omega, ?_⟩
    · rw [show N + s - 1 = (s - 1) + (t + 1) * s by omega, Nat.add_mul_div_right _ _ (by omega), Nat.div_eq_of_lt (by omega), Nat.zero_add]
    · rw [if_neg q, ht, List.append_nil, List.replicate_succ', show N - t * s = s by omega]
end
theorem rgI_cons {a b : Int} (h : a < b) : rangeI a b = a :: rangeI (a + 1) b := by
  apply ext_nth
  · simp only [rgI_len, List.length_cons]; omega
  · intro i h0 h1
    rw [rgI_len] at h1
    rw [rgI_nth h0 (by omega)]
    by_cases e : i = 0
    · subst e; rw [nth_cons0]; omega
    · rw [nth_eq (n := (i.toNat - 1) + 1) (by omega) (by simp only [rgI_len, List.length_cons]; omega), List.getElem_cons_succ]
      simp [rangeI]; omega
theorem rg_first {p : Int → Bool} : ∀ (k : Nat) {a j b : Int}, (j - a).toNat = k → a ≤ j → j < b → p j = true → (∀ i, a ≤ i → i < j → p i = false) → ∃ r, (rangeI a b).filter p = j :: r
  | 0, a, j, b, hk, h1, h2, hp, _ => by
    have : a = j := by omega
    subst this
    rw [rgI_cons h2, List.filter_cons_of_pos hp]; exact ⟨_, rfl⟩
  | k + 1, a, j, b, hk, h1, h2, hp, hn => by
    rw [rgI_cons (by omega), List.filter_cons_of_neg (by rw [hn a (by omega) (by omega)]; decide)]
    exact rg_first k (by omega) (by omega) h2 hp fun i h3 h4 => hn i (by omega) h4
theorem sub_len {α : Type} [DecidableEq α] : ∀ {xs ys : List α}, xs.Nodup → (∀ x ∈ xs, x ∈ ys) → xs.length ≤ ys.length
  | [], ys, _, _ => by simp
  | x :: r, ys, nd, h => by
    obtain ⟨n1, n2⟩ := List.nodup_cons.mp nd
    have := sub_len (ys := ys.erase x) n2 fun y hy => (List.mem_erase_of_ne fun q => n1 (by rw [← q]; exact hy)).mpr (h y (List.mem_cons_of_mem _ hy))
    rw [List.length_erase_of_mem (h x List.mem_cons_self)] at this
    have := List.length_pos_of_mem (h x List.mem_cons_self)
    simp only [List.length_cons]; omega
end Tw
set_option Elab.async false
set_option linter.all false
set_option maxRecDepth 100000
set_option maxHeartbeats 1000000
/-! All sets, counted. -/
namespace Tw
open PySem Ev
theorem snocI {α : Type} {P : List α → Prop} (h0 : P []) (h1 : ∀ xs x, P xs → P (xs ++ [x])) : ∀ xs, P xs := fun xs => by
  have : ∀ ys : List α, P ys.reverse := by
    intro ys
    induction ys with
    | nil => exact h0
    | cons y ys ih => rw [List.reverse_cons]; exact h1 _ _ ih
  have h := this xs.reverse
  rwa [List.reverse_reverse] at h
/-- all sets of a list, as the law lists them -/
def setsF (L : List Int) : List (List Int) := L.foldl (fun m x => m ++ m.map fun s => s ++ [x]) [[]]
theorem setsF_snoc (L : List Int) (x : Int) : setsF (L ++ [x]) = setsF L ++ (setsF L).map fun s => s ++ [x] := by unfold setsF; rw [List.foldl_append]; rfl
theorem setsF_len : ∀ L : List Int, (setsF L).length = 2 ^ L.length := by
  refine snocI rfl fun L x ih => ?_
  rw [setsF_snoc, List.length_append, List.length_map, ih, List.length_append, List.length_singleton, Nat.pow_succ]; omega
theorem sets_ok {L : List Int} (hL : L.length ≤ 12) : g__law_sets L = some (setsF L) := by
  have main : Ok (g__law_sets L) fun v => v = setsF L := by
    unfold g__law_sets
    refine ok_bfold (fun i s => s = setsF (L.take i)) rfl (fun i x s hx hs => ?_) (fun s hs => ok_some (by rw [hs, List.take_length]))
    subst hs
    have hi := (List.getElem?_eq_some_iff.mp hx).1
    have l1 := setsF_len (L.take i)
    have l2 : (2 : Nat) ^ (L.take i).length ≤ 2 ^ 12 := Nat.pow_le_pow_right (by omega) (by rw [List.length_take]; omega)
    refine ok_beq (v := (setsF (L.take i)).map fun s => s ++ [x]) (mapO_ok _ (by omega) fun s hs => ?_) (ok_beq (catO_ok (by rw [List.length_map]; omega)) (ok_some ?_))
    · have : s.length ≤ 12 := by
        have key : ∀ K : List Int, ∀ s ∈ setsF K, s.length ≤ K.length := by
          refine snocI (fun s hs => ?_) fun K y ih s hs => ?_
          · have : s = [] := by simpa [setsF] using hs
            subst this; simp
          · rw [setsF_snoc] at hs
            rw [List.length_append, List.length_singleton]
            rcases List.mem_append.mp hs with z | z
            · have := ih s z; omega
            · obtain ⟨r, hr, rfl⟩ := List.mem_map.mp z
              have := ih r hr
              simp; omega
        have := key _ s hs
        rw [List.length_take] at this; omega
      rw [catO_ok (by simp; omega)]; rfl
    · rw [List.take_add_one, hx]
      exact (setsF_snoc _ _).symm
  exact ok_of main
theorem setsF_sub : ∀ L : List Int, ∀ s, s.Sublist L → s ∈ setsF L := by
  refine snocI (fun s hs => ?_) fun L x ih s hs => ?_
  · have : s = [] := List.sublist_nil.mp hs
    subst this; simp [setsF]
  · rw [setsF_snoc]
    obtain ⟨s1, s2, rfl, h1, h2⟩ := List.sublist_append_iff.mp hs
    have c : s2 = [] ∨ s2 = [x] := by
      cases h2 with
      | cons _ h => exact .inl (List.sublist_nil.mp h)
      | cons_cons _ h => exact .inr (by rw [List.sublist_nil.mp h])
    rcases c with rfl | rfl
    · rw [List.append_nil]; exact List.mem_append_left _ (ih _ h1)
    · exact List.mem_append_right _ (List.mem_map.mpr ⟨s1, ih _ h1, rfl⟩)
/-- so many, of which so many are p -/
def isC (p : Int → Bool) (n m : Nat) (s : List Int) : Bool := decide (s.length = n) && decide ((s.filter p).length = m)
theorem cnt (p : Int → Bool) : ∀ L : List Int, ∀ n m : Nat, (setsF L).countP (isC p n m) = if m ≤ n then cho (L.countP p) m * cho (L.countP fun x => !p x) (n - m) else 0 := by
  refine snocI (fun n m => ?_) fun L x ih n m => ?_
  · show [[]].countP (isC p n m) = _
    cases n with
    | zero =>
      cases m with
      | zero => rfl
      | succ m => simp [isC]
    | succ n =>
      have : [([] : List Int)].countP (isC p (n + 1) m) = 0 := by simp [isC]
      rw [this]
      by_cases h : m ≤ n + 1
      · rw [if_pos h]
        cases m with
        | zero => rfl
        | succ m => show 0 = cho 0 (m + 1) * _; rw [cho_big (by omega), Nat.zero_mul]
      · rw [if_neg h]
  · rw [setsF_snoc, List.countP_append, List.countP_map, List.countP_append, List.countP_append, ih]
    have e0 : ((isC p n m) ∘ fun s => s ++ [x]) = fun s : List Int => decide (s.length + 1 = n) && decide ((s.filter p).length + (if p x then 1 else 0) = m) := by
      funext s
      simp only [Function.comp_apply, isC, List.length_append, List.filter_append, List.length_singleton]
      cases px : p x <;> simp [px]
    rw [e0]
    cases n with
    | zero =>
      have z : (setsF L).countP (fun s : List Int => decide (s.length + 1 = 0) && decide ((s.filter p).length + (if p x then 1 else 0) = m)) = 0 := List.countP_eq_zero.mpr fun s _ => by simp
      rw [z, Nat.add_zero]
      by_cases h : m ≤ 0
      · have : m = 0 := by omega
        subst this
        rw [if_pos h, if_pos h]; simp [cho_0]
      · rw [if_neg h, if_neg h]
    | succ n =>
      cases px : p x with
      | true =>
        cases m with
        | zero =>
          have z : (setsF L).countP (fun s : List Int => decide (s.length + 1 = n + 1) && decide ((s.filter p).length + (if true = true then 1 else 0) = 0)) = 0 := List.countP_eq_zero.mpr fun s _ => by simp
          rw [z, if_pos (by omega), if_pos (by omega)]
          simp [px, cho_0]
        | succ m =>
          have z : (setsF L).countP (fun s : List Int => decide (s.length + 1 = n + 1) && decide ((s.filter p).length + (if true = true then 1 else 0) = m + 1)) = (setsF L).countP (isC p n m) := by
            congr 1
            funext s
            simp [isC]
          rw [z, ih]
          have c1 : [x].countP p = 1 := by simp [px]
          have c2 : [x].countP (fun x => !p x) = 0 := by simp [px]
          rw [c1, c2, show List.countP (fun x => !p x) L + 0 = List.countP (fun x => !p x) L from rfl, cho_s]
          by_cases h : m ≤ n
          · rw [if_pos (by omega), if_pos h, if_pos (by omega), show n + 1 - (m + 1) = n - m by omega, Nat.add_mul]; omega
          · rw [if_neg (by omega), if_neg h, if_neg (by omega)]
      | false =>
        have z : (setsF L).countP (fun s : List Int => decide (s.length + 1 = n + 1) && decide ((s.filter p).length + (if false = true then 1 else 0) = m)) = (setsF L).countP (isC p n m) := by
          congr 1
          funext s
          simp [isC]
        rw [z, ih]
        have c1 : [x].countP p = 0 := by simp [px]
        have c2 : [x].countP (fun x => !p x) = 1 := by simp [px]
        rw [c1, c2, show List.countP p L + 0 = List.countP p L from rfl]
        by_cases h : m ≤ n
        · rw [if_pos (by omega), if_pos h, if_pos (by omega), show n + 1 - m = n - m + 1 by omega, cho_s, Nat.mul_add]; omega
        · by_cases h2 : m = n + 1
          · subst h2
            rw [if_pos (by omega), if_neg h, if_pos (by omega), Nat.sub_self, cho_0, cho_0, Nat.add_zero]
          · rw [if_neg (by omega), if_neg h, if_neg (by omega)]
theorem rng_cnt {N : Nat} {P : List Int} (nd : P.Nodup) (hP : ∀ x ∈ P, 0 ≤ x ∧ x < N) : (rangeI 0 (N : Int)).countP (fun x => decide (x ∈ P)) = P.length ∧ (rangeI 0 (N : Int)).countP (fun x => !decide (x ∈ P)) = N - P.length := by
  have h1 : (rangeI 0 (N : Int)).countP (fun x => decide (x ∈ P)) = P.length := by
    rw [List.countP_eq_length_filter]
    refine (perm_of_nd ((rgI_nd _ _).filter _) nd fun x => ?_).length_eq
    rw [List.mem_filter, rgI_mem]
    exact ⟨fun h => by simpa using h.2, fun h => ⟨hP x h, by simpa using h⟩⟩
  refine ⟨h1, ?_⟩
  have := List.length_eq_countP_add_countP (fun x => decide (x ∈ P)) (l := rangeI 0 (N : Int))
  rw [rgI_len, h1] at this
  have e : (rangeI 0 (N : Int)).countP (fun x => !decide (x ∈ P)) = (rangeI 0 (N : Int)).countP (fun a => decide ¬(decide (a ∈ P)) = true) := by
    congr 1
    funext a
    by_cases z : a ∈ P <;> simp [z]
  rw [e]; omega
/-- numbers summed by how often each stands there -/
theorem sum_cnt : ∀ (H : List Nat) (B : Nat), (∀ x ∈ H, x < B) → H.sum = sumN (fun m => m * H.countP fun x => decide (x = m)) B
  | [], B, _ => by
    rw [sumN_congr (g := fun _ => 0) fun i _ => by simp]
    have : sumN (fun _ => 0) B = 0 := by
      induction B with
      | zero => rfl
      | succ B ih => rw [sumN, ih (fun x hx => nomatch hx)]
    rw [this]; rfl
  | a :: r, B, h => by
    have ih := sum_cnt r B fun x hx => h x (List.mem_cons_of_mem _ hx)
    have ha := h a List.mem_cons_self
    rw [List.sum_cons, ih]
    have e : sumN (fun m => m * (a :: r).countP fun x => decide (x = m)) B = sumN (fun m => m * (r.countP fun x => decide (x = m)) + (if m = a then a else 0)) B := by
      refine sumN_congr fun m _ => ?_
      rw [List.countP_cons]
      by_cases z : a = m
      · subst z; simp [Nat.mul_add]
      · rw [if_neg (show ¬ m = a from fun q => z q.symm)]; simp [z]
    rw [e, sumN_add]
    have one : ∀ C, sumN (fun m => if m = a then a else 0) C = if a < C then a else 0 := by
      intro C
      induction C with
      | zero => rfl
      | succ C ih =>
        rw [sumN, ih]
        by_cases z : C = a
        · subst z; simp
        · by_cases z2 : a < C
          · simp [z, z2]; omega
          · rw [if_neg z2, if_neg z, if_neg (by omega)]
    rw [one, if_pos ha]; omega
end Tw
set_option Elab.async false
set_option linter.all false
set_option maxRecDepth 100000
set_option maxHeartbeats 1000000
/-! Heaps hit by a set. -/
namespace Tw
open PySem Ev
def hp (N s i : Nat) : List Int := rangeI ((i * s : Nat) : Int) (min (N : Int) ((i * s + s : Nat) : Int))
def hit (N s : Nat) (S : List Int) (i : Nat) : Bool := decide (0 < (((hp N s i).filter fun x => decide (x ∈ S)).length : Int))
theorem hit_iff {N s i : Nat} {S : List Int} : hit N s S i = true ↔ ∃ x ∈ S, ((i * s : Nat) : Int) ≤ x ∧ x < N ∧ x < ((i * s + s : Nat) : Int) := by
  unfold hit
  rw [decide_eq_true_iff]
  constructor
  · intro h
    have : ((hp N s i).filter fun x => decide (x ∈ S)) ≠ [] := fun z => by rw [z] at h; simp at h
    obtain ⟨x, hx⟩ := List.exists_mem_of_ne_nil _ this
    obtain ⟨h1, h2⟩ := List.mem_filter.mp hx
    have := rgI_mem.mp h1
    exact ⟨x, by simpa using h2, by omega, by omega, by omega⟩
  · rintro ⟨x, h1, h2, h3, h4⟩
    have : x ∈ (hp N s i).filter fun x => decide (x ∈ S) := List.mem_filter.mpr ⟨rgI_mem.mpr ⟨h2, by omega⟩, by simpa using h1⟩
    have := List.length_pos_of_mem this
    omega
section
variable {N s t : Nat}
theorem hp_full (h : t * s < N) {i : Nat} (hi : i < t) : (hp N s i).length = s := by
  unfold hp
  rw [rgI_len]
  have : (i + 1) * s ≤ t * s := Nat.mul_le_mul_right _ (by omega)
  rw [Nat.add_mul, Nat.one_mul] at this
  omega
theorem hp_le {i : Nat} : (hp N s i).length ≤ s := by
  unfold hp
  rw [rgI_len]; omega
theorem hp_last (h : t * s < N) (h2 : N ≤ t * s + s) : (hp N s t).length = N - t * s := by
  unfold hp
  rw [rgI_len]; omega
theorem hps_map (h : t * s < N) (h2 : N ≤ t * s + s) (hh : hps N s = List.replicate t (s : Int) ++ [((N - t * s : Nat) : Int)]) : hps N s = (List.range (t + 1)).map fun i => ((hp N s i).length : Int) := by
  rw [hh, List.range_succ, List.map_append]
  congr 1
  · refine (List.eq_replicate_iff.mpr ⟨by simp, fun x hx => ?_⟩).symm
    obtain ⟨i, hi, rfl⟩ := List.mem_map.mp hx
    rw [hp_full h (List.mem_range.mp hi)]
  · simp [hp_last h h2]
theorem take_sum_mono {xs : List Int} (h : ∀ x ∈ xs, 0 ≤ x) {a b : Nat} (hab : a ≤ b) : (xs.take a).sum ≤ (xs.take b).sum := by
  have e : xs.take b = xs.take a ++ (xs.take b).drop a := by
    have := List.take_append_drop a (xs.take b)
    rw [List.take_take, show min a b = a by omega] at this
    exact this.symm
  rw [e, sum_app]
  have := sum_nn (xs := (xs.take b).drop a) fun x hx => h x (List.mem_of_mem_take (List.mem_of_mem_drop hx))
  omega
theorem hits_le (hs : 1 ≤ s) (S : List Int) : ((List.range (t + 1)).filter (hit N s S)).length ≤ S.length := by
  have := sub_len (xs := (List.range (t + 1)).filter (hit N s S)) (ys := S.map fun x => (x / (s : Int)).toNat) (List.nodup_range.filter _) fun i hi => by
    obtain ⟨x, h1, h2, h3, h4⟩ := hit_iff.mp (List.mem_filter.mp hi).2
    refine List.mem_map.mpr ⟨x, h1, ?_⟩
    have e : x = (x - ((i * s : Nat) : Int)) + (i : Int) * (s : Int) := by rw [Int.natCast_mul]; omega
    rw [e, Int.add_mul_ediv_right _ _ (by omega), Int.ediv_eq_zero_of_lt (by omega) (by omega)]
    omega
  rwa [List.length_map] at this
/-- no set of few slips is worse -/
theorem hits_sum (hs : 1 ≤ s) (h : t * s < N) (h2 : N ≤ t * s + s) (hm : hps N s = (List.range (t + 1)).map fun i => ((hp N s i).length : Int)) {S : List Int} {f : Nat} (hS : S.length ≤ f) :
    (((List.range (t + 1)).filter (hit N s S)).map fun i => ((hp N s i).length : Int)).sum ≤ ((hps N s).take f).sum := by
  have l := hits_le (N := N) (t := t) hs S
  have sub := List.filter_sublist (p := hit N s S) (l := List.range (t + 1))
  generalize (List.range (t + 1)).filter (hit N s S) = I at l sub
  have ll := sub.length_le
  rw [List.length_range] at ll
  have nn : ∀ x ∈ hps N s, 0 ≤ x := fun x hx => by
    rw [hm] at hx
    obtain ⟨i, _, rfl⟩ := List.mem_map.mp hx
    omega
  refine Int.le_trans ?_ (take_sum_mono nn (show I.length ≤ f by omega))
  by_cases q : I.length = t + 1
  · have := sub.eq_of_length (by rw [List.length_range]; exact q)
    rw [this, hm, List.length_range, List.take_of_length_le (by simp)]
    exact Int.le_refl _
  · have a : (I.map fun i => ((hp N s i).length : Int)).sum ≤ (s : Int) * I.length := by
      have := sum_le (xs := I.map fun i => ((hp N s i).length : Int)) (c := (s : Int)) fun x hx => by
        obtain ⟨i, _, rfl⟩ := List.mem_map.mp hx
        have := hp_le (N := N) (s := s) (i := i); omega
      rwa [List.length_map] at this
    have b : ((hps N s).take I.length).sum = (s : Int) * I.length := by
      rw [hm, ← List.map_take, List.take_range, show min I.length (t + 1) = I.length by omega]
      have : (List.range I.length).map (fun i => ((hp N s i).length : Int)) = (List.range I.length).map fun _ => (s : Int) := List.map_congr_left fun i hi => by
        have := List.mem_range.mp hi
        rw [hp_full h (by omega)]
      rw [this, sum_map_const, List.length_range]
    omega
theorem hits_ge {S : List Int} {f : Nat} (hm : hps N s = (List.range (t + 1)).map fun i => ((hp N s i).length : Int)) (hh : ∀ i, i < f → i ≤ t → hit N s S i = true) :
    ((hps N s).take f).sum ≤ (((List.range (t + 1)).filter (hit N s S)).map fun i => ((hp N s i).length : Int)).sum := by
  have e : (List.range (t + 1)).filter (hit N s S) = ((List.range (t + 1)).take f) ++ ((List.range (t + 1)).drop f).filter (hit N s S) := by
    have : (List.range (t + 1)).filter (hit N s S) = ((List.range (t + 1)).take f ++ (List.range (t + 1)).drop f).filter (hit N s S) := by rw [List.take_append_drop]
    rw [this, List.filter_append]
    congr 1
    refine List.filter_eq_self.mpr fun i hi => ?_
    rw [List.take_range] at hi
    have := List.mem_range.mp hi
    exact hh i (by omega) (by omega)
  rw [e, List.map_append, sum_app, hm, ← List.map_take]
  have := sum_nn (xs := (((List.range (t + 1)).drop f).filter (hit N s S)).map fun i => ((hp N s i).length : Int)) fun x hx => by
    obtain ⟨i, _, rfl⟩ := List.mem_map.mp hx
    omega
  omega
theorem sub_rng {xs : List Int} (hr : Rise xs) (h : ∀ x ∈ xs, 0 ≤ x ∧ x < N) : xs.Sublist (rangeI 0 (N : Int)) := by
  have e : xs = (rangeI 0 (N : Int)).filter fun x => decide (x ∈ xs) := by
    refine Rise.eq (perm_of_nd hr.nd ((rgI_nd _ _).filter _) fun x => ?_) hr ((rgI_lt _ _).filter _)
    rw [List.mem_filter, rgI_mem]
    exact ⟨fun hx => ⟨h x hx, by simpa using hx⟩, fun hx => by simpa using hx.2⟩
  rw [e]
  exact List.filter_sublist
/-- one set of few slips that is as bad -/
theorem worst {f : Nat} (hs : 1 ≤ s) (h : t * s < N) (h2 : N ≤ t * s + s) (hf : f ≤ 3) (hfN : f ≤ N) : ∃ S, S ∈ setsF (rangeI 0 (N : Int)) ∧ S.length = f ∧ ∀ i, i < f → i ≤ t → hit N s S i = true := by
  by_cases q : f ≤ t + 1
  · refine ⟨(List.range f).map fun i => ((i * s : Nat) : Int), setsF_sub _ _ (sub_rng ?_ fun x hx => ?_), by simp, fun i h1 h3 => hit_iff.mpr ⟨((i * s : Nat) : Int), List.mem_map.mpr ⟨i, List.mem_range.mpr h1, rfl⟩, Int.le_refl _, ?_, by omega⟩⟩
    · refine List.Pairwise.map _ (fun a b hab => ?_) List.pairwise_lt_range
      have : (a + 1) * s ≤ b * s := Nat.mul_le_mul_right _ (by omega)
      rw [Nat.add_mul, Nat.one_mul] at this
      omega
    · obtain ⟨i, hi, rfl⟩ := List.mem_map.mp hx
      have hi := List.mem_range.mp hi
      have : i * s ≤ t * s := Nat.mul_le_mul_right _ (by omega)
      omega
    · have : i * s ≤ t * s := Nat.mul_le_mul_right _ (by omega)
      omega
  · by_cases t0 : t = 0
    · subst t0
      refine ⟨rangeI 0 (f : Int), setsF_sub _ _ (sub_rng (rgI_lt _ _) fun x hx => ?_), by rw [rgI_len]; omega, fun i h1 h3 => hit_iff.mpr ⟨0, rgI_mem.mpr (by omega), ?_, by omega, ?_⟩⟩
      · have := rgI_mem.mp hx; omega
      · rw [show i = 0 by omega]; simp
      · rw [show i = 0 by omega]; simp; omega
    · have t1 : t = 1 := by omega
      subst t1
      have f3 : f = 3 := by omega
      subst f3
      have s2 : 2 ≤ s := by omega
      refine ⟨[0, 1, (s : Int)], setsF_sub _ _ (sub_rng ?_ fun x hx => ?_), rfl, fun i h1 h3 => ?_⟩
      · simp; omega
      · have : x = 0 ∨ x = 1 ∨ x = (s : Int) := by simpa using hx
        omega
      · have : i = 0 ∨ i = 1 := by omega
        rcases this with rfl | rfl
        · exact hit_iff.mpr ⟨0, by simp, by simp, by omega, by simp; omega⟩
        · exact hit_iff.mpr ⟨(s : Int), by simp, by simp, by omega, by simp; omega⟩
end
end Tw
set_option Elab.async false
set_option linter.all false
set_option maxRecDepth 100000
set_option maxHeartbeats 8000000
/-! The law. -/
namespace Tw
open PySem Ev
theorem map_id' {α : Type} (xs : List α) : (xs.map fun x : α => x) = xs := List.map_id _
section
variable {N K n : Nat} {P : List Int}
/-- how many wrong ones are in each set of n -/
def hitsOf (P : List Int) (N n : Nat) : List Nat := ((setsF (rangeI 0 (N : Int))).filter fun s => decide ((s.length : Int) = (n : Int))).map fun s => (s.filter fun x => decide (x ∈ P)).length
theorem hits_cnt (hK : K ≤ N) (nd : P.Nodup) (hP : ∀ x ∈ P, 0 ≤ x ∧ x < N) (lP : P.length = K) (m : Nat) : (hitsOf P N n).countP (fun x => decide (x = m)) = if m ≤ n then hy K (N - K) n m else 0 := by
  obtain ⟨c1, c2⟩ := rng_cnt nd hP
  rw [lP] at c1 c2
  have c := cnt (fun x => decide (x ∈ P)) (rangeI 0 (N : Int)) n m
  rw [c1, c2] at c
  have e : (if m ≤ n then hy K (N - K) n m else 0) = if m ≤ n then cho K m * cho (N - K) (n - m) else 0 := rfl
  rw [e, ← c]
  unfold hitsOf
  rw [List.countP_map, List.countP_filter]
  congr 1
  funext s
  unfold isC
  by_cases z : s.length = n
  · simp [z, Function.comp]
  · have z' : ¬ (s.length : Int) = (n : Int) := by omega
    simp [z, z', Function.comp]
theorem hits_len : (hitsOf P N n).length = cho N n := by
  have c := cnt (fun _ => false) (rangeI 0 (N : Int)) n 0
  have c1 : (rangeI 0 (N : Int)).countP (fun _ => false) = 0 := by simp
  have c2 : (rangeI 0 (N : Int)).countP (fun _ : Int => !false) = N := by simp [rgI_len]
  rw [c1, c2, if_pos (by omega), cho_0, Nat.one_mul, Nat.sub_zero] at c
  rw [← c]
  unfold hitsOf
  rw [List.length_map, List.countP_eq_length_filter]
  congr 1
  refine List.filter_congr fun s _ => ?_
  unfold isC
  by_cases z : s.length = n
  · simp [z]
  · have z' : ¬ (s.length : Int) = (n : Int) := by omega
    simp [z, z']
theorem hits_max : ∀ x ∈ hitsOf P N n, x < n + 1 := fun x hx => by
  unfold hitsOf at hx
  obtain ⟨s, hs, rfl⟩ := List.mem_map.mp hx
  have h1 : (s.length : Int) = n := by simpa using (List.mem_filter.mp hs).2
  have := List.length_filter_le (fun x => decide (x ∈ P)) s
  omega
theorem hits_pos (hK : K ≤ N) (nd : P.Nodup) (hP : ∀ x ∈ P, 0 ≤ x ∧ x < N) (lP : P.length = K) : (((hitsOf P N n).map fun x : Nat => (x : Int)).filter fun x => decide ((0 : Int) < x)).length + cho (N - K) n = cho N n := by
  have c := hits_cnt (n := n) hK nd hP lP 0
  rw [if_pos (by omega)] at c
  have h0 : hy K (N - K) n 0 = cho (N - K) n := by simp [hy, cho_0]
  rw [h0] at c
  rw [← c, ← hits_len (P := P), List.filter_map, List.length_map]
  generalize hitsOf P N n = H
  induction H with
  | nil => rfl
  | cons a r ih =>
    rw [List.filter_cons, List.countP_cons, List.length_cons]
    by_cases z : a = 0
    · subst z; simp at ih ⊢; omega
    · have : decide ((0 : Int) < ((a : Nat) : Int)) = true := by simp; omega
      simp only [Function.comp_apply, this, if_true, List.length_cons]
      simp [z] at ih ⊢; omega
theorem hits_sum2 (hK : K ≤ N) (nd : P.Nodup) (hP : ∀ x ∈ P, 0 ≤ x ∧ x < N) (lP : P.length = K) : N * (hitsOf P N n).sum = K * n * cho N n := by
  have v := vmean K (N - K) n
  rw [show K + (N - K) = N by omega] at v
  rw [← v, sum_cnt _ (n + 1) hits_max]
  congr 1
  refine sumN_congr fun m hm => ?_
  rw [hits_cnt hK nd hP lP, if_pos (by omega)]
theorem cast_sum (H : List Nat) : (H.map fun x : Nat => (x : Int)).sum = (H.sum : Int) := by
  induction H with
  | nil => rfl
  | cons a r ih => rw [List.map_cons, List.sum_cons, List.sum_cons, ih]; omega
instance {s : Int × Int} {i : Nat} : Decidable (Eno N K s i) := by unfold Eno; infer_instance
end
theorem law_holds (script : List Int) (hs : script.length ≤ 63) : Ok (g_law script) fun v => v = true := by
  unfold g_law
  refine ok_bind (numbers_ok hs) fun row hr => ?_
  refine ok_bind (take_ok hr sp0 (by omega)) fun y2 h2 => ?_
  obtain ⟨N, hN⟩ : ∃ N : Nat, (N : Int) = 1 + y2.1 := ⟨(1 + y2.1).toNat, by omega⟩
  rw [← hN]
  have N1 : 1 ≤ N := by omega
  have N9 : N ≤ 9 := by omega
  refine ok_bind (take_ok hr h2.2 (by omega)) fun y3 h3 => ?_
  obtain ⟨K0, sp3⟩ := y3
  obtain ⟨⟨k0, k1⟩, h3⟩ := h3
  dsimp only at k0 k1 h3 ⊢
  obtain ⟨K, rfl⟩ := Int.eq_ofNat_of_zero_le k0
  have KN : K ≤ N := by omega
  refine ok_bind (figure_ok hr h3 (by omega) (by omega)) fun y4 h4 => ?_
  obtain ⟨pm, sp4⟩ := y4
  obtain ⟨hpm, h4⟩ := h4
  dsimp only at hpm h4 ⊢
  have lpm : pm.length = N := by rw [hpm.length_eq, rgI_len]; omega
  obtain ⟨P, eP⟩ : ∃ P, P = pm.take K := ⟨_, rfl⟩
  have cP : cut pm none (some (K : Int)) = P := by rw [cut_to _ (by omega), Int.toNat_natCast, eP]
  have ndP : P.Nodup := by rw [eP]; exact (hpm.nodup_iff.mpr (rgI_nd _ _)).sublist (List.take_sublist _ _)
  have rP : ∀ x ∈ P, 0 ≤ x ∧ x < N := fun x hx => by
    rw [eP] at hx
    exact rgI_mem.mp (hpm.mem_iff.mp (List.mem_of_mem_take hx))
  have lP : P.length = K := by rw [eP, List.length_take]; omega
  refine ok_beq (rngO_ok (by omega) (by omega) (by omega) (by omega)) ?_
  refine ok_beq (v := rangeI 0 (N : Int)) (by rw [mapG_ok (by rw [rgI_len]; omega), map_id']) ?_
  refine ok_beq (sets_ok (by rw [rgI_len]; omega)) ?_
  refine ok_beq (rngO_ok (by omega) (by omega) (by omega) (by omega)) ?_
  obtain ⟨Es, eE⟩ : ∃ Es, Es = setsF (rangeI 0 (N : Int)) := ⟨_, rfl⟩
  have lE : Es.length ≤ 512 := by
    rw [eE, setsF_len, rgI_len]
    have : (2 : Nat) ^ ((N : Int) - 0).toNat ≤ 2 ^ 9 := Nat.pow_le_pow_right (by omega) (by omega)
    omega
  rw [← eE]
  have sb : ∀ s ∈ Es, s.length ≤ 9 := fun s hs => by
    have key : ∀ L : List Int, ∀ s ∈ setsF L, s.length ≤ L.length := by
      refine snocI (fun s hs => ?_) fun L y ih s hs => ?_
      · have : s = [] := by simpa [setsF] using hs
        subst this; simp
      · rw [setsF_snoc] at hs
        rw [List.length_append, List.length_singleton]
        rcases List.mem_append.mp hs with z | z
        · have := ih s z; omega
        · obtain ⟨r, hr, rfl⟩ := List.mem_map.mp z
          have := ih r hr
          simp; omega
    rw [eE] at hs
    have := key _ s hs
    rw [rgI_len] at this; omega
  refine ok_bfor (fun _ s => s = Es) (fun s => s = Es) (fun _ => False) rfl (fun i x s hx hs => ?_) (fun s hs => hs) (fun s39 hs39 => ?_) (fun _ h => absurd h id)
  · subst hs
    obtain ⟨rfl, hi⟩ := rg0_get hx
    have iN : i ≤ N := by omega
    refine ok_beq (v := s.filter fun x => decide ((x.length : Int) = (i : Int))) (by rw [filG_ok (by omega), map_id']) ?_
    have lf := List.length_filter_le (fun x : List Int => decide ((x.length : Int) = (i : Int))) s
    obtain ⟨H, eH⟩ : ∃ H, H = hitsOf P N i := ⟨_, rfl⟩
    have eG : (s.filter fun x => decide ((x.length : Int) = (i : Int))).map (fun s => (s.filter fun x => decide (x ∈ P)).length) = H := by rw [eH, hitsOf, eE]
    have lG : (s.filter fun x => decide ((x.length : Int) = (i : Int))).length = cho N i := by
      rw [← hits_len (P := P) (n := i), ← eH, ← eG, List.length_map]
    refine ok_beq (v := H.map fun x : Nat => (x : Int)) ?_ ?_
    · rw [mapO_ok (fun s : List Int => ((s.filter fun x => decide (x ∈ P)).length : Int)) (by omega) (fun x hx => ?_), ← eG, List.map_map]
      · rfl
      · have := sb x (List.mem_filter.mp hx).1
        rw [cP, filG_ok (by omega), map_id']; rfl
    obtain ⟨z, ez, hz⟩ := chance_ok N1 (by omega) KN iN
    have lH : H.length = cho N i := by rw [eH]; exact hits_len
    have cb : cho N i ≤ 512 := by rw [← lG]; omega
    have cp := cho_pos iN
    have pos := hits_pos (n := i) KN ndP rP lP
    rw [← eH] at pos
    have hsum := hits_sum2 (n := i) KN ndP rP lP
    rw [← eH] at hsum
    refine ok_beq ez ?_
    refine ok_beq (v := (H.map fun x : Nat => (x : Int)).filter fun x => decide ((0 : Int) < x)) (by rw [filG_ok (by rw [List.length_map]; omega), map_id']) ?_
    have el : ((((H.map fun x : Nat => (x : Int)).filter fun x => decide ((0 : Int) < x)).length : Nat) : Int) = (cho N i : Int) - (cho (N - K) i : Int) := by omega
    rw [el, lG]
    obtain ⟨y, ey, ry, py, _⟩ := lred (n := (cho N i : Int) - (cho (N - K) i : Int)) (d := (cho N i : Int)) (k := 12) (l := 12) (by omega) (by have := cho_le i (show N - K ≤ N by omega); omega) (by omega) (by omega) (by omega)
    have zy : z = y := (hz.rp iN).same py hz.red ry rfl
    subst zy
    refine ok_beq ey ?_
    obtain ⟨mn, emn, rmn, qmn, _⟩ := mean_ok (n := i) N1 (by omega) KN iN
    have sumb : H.sum ≤ 9 * 512 := by
      have : ∀ x ∈ H, x ≤ 9 := fun x hx => by rw [eH] at hx; have := hits_max x hx; omega
      have key : ∀ L : List Nat, (∀ x ∈ L, x ≤ 9) → L.sum ≤ 9 * L.length := by
        intro L
        induction L with
        | nil => simp
        | cons a r ih =>
          intro h
          have := ih fun x hx => h x (List.mem_cons_of_mem _ hx)
          have := h a List.mem_cons_self
          rw [List.sum_cons, List.length_cons]; omega
      have := key H this
      omega
    refine ok_beq (v := false) ?_ (ok_ff rfl ?_)
    · obtain ⟨w, ew, rw_, pw_, _⟩ := lred (n := (H.sum : Int)) (d := (cho N i : Int)) (k := 13) (l := 12) (by omega) (by omega) (by omega) (by omega) (by omega)
      have pmn : Rp mn ((K * i : Nat) : Int) N := ⟨rmn.pos, by omega, qmn⟩
      have e2 : (N : Int) * (H.sum : Int) = ((K * i : Nat) : Int) * (cho N i : Int) := by rw [← Int.natCast_mul, hsum, Int.natCast_mul]
      have : mn = w := pmn.same pw_ rmn rw_ (by rw [← e2, Int.mul_comm])
      subst this
      rw [if_neg (by simp), emn, Option.bind_some, cast_sum, ew, Option.bind_some]
      simp
    refine ok_beq (rngO_ok (by omega) (by omega) (by omega) (by omega)) ?_
    have rl : (N : Int) + 1 = ((N + 1 : Nat) : Int) := by omega
    refine ok_beq (v := (rangeI 0 ((N + 1 : Nat) : Int)).map fun m => ((if m.toNat ≤ i then hy K (N - K) i m.toNat else 0 : Nat) : Int)) ?_ ?_
    · rw [rl, mapO_ok (fun m : Int => ((if m.toNat ≤ i then hy K (N - K) i m.toNat else 0 : Nat) : Int)) (by rw [rgI_len]; omega) (fun m hm => ?_)]
      have hm := rgI_mem.mp hm
      obtain ⟨m, rfl⟩ := Int.eq_ofNat_of_zero_le hm.1
      rw [filG_ok (by rw [List.length_map]; omega), Option.bind_some, map_id']
      congr 2
      rw [Int.toNat_natCast, ← hits_cnt KN ndP rP lP m, ← eH, List.filter_map, List.length_map, List.countP_eq_length_filter]
      congr 1
      refine List.filter_congr fun x _ => ?_
      simp only [Function.comp_apply]
      by_cases q : x = m
      · subst q; simp
      · simp [q]; omega
    refine ok_beq (likely_ok N1 (by omega) KN iN) ?_
    have pl := pk_le KN iN
    obtain ⟨e1, e2⟩ := peak_list (f := fun m : Int => ((if m.toNat ≤ i then hy K (N - K) i m.toNat else 0 : Nat) : Int)) (m := N + 1) (p := pk N K i) (by omega) (fun j hj => by
      have := pk_first KN iN hj
      simp only [Int.toNat_natCast]
      rw [if_pos (by omega), if_pos (by omega)]; omega) fun j h1 h2 => by
      simp only [Int.toNat_natCast]
      rw [if_pos (show pk N K i ≤ i by omega)]
      by_cases q : j ≤ i
      · rw [if_pos q]
        by_cases q2 : j ≤ K
        · have := pk_max KN iN q q2; omega
        · have : hy K (N - K) i j = 0 := by unfold hy; rw [cho_big (by omega), Nat.zero_mul]
          omega
      · rw [if_neg q]; omega
    refine ok_beq e1 (ok_beq e2 (ok_ff (by simp) (ok_some rfl)))
  subst hs39
  dsimp only
  refine ok_beq (rngO_ok (by omega) (by omega) (by omega) (by omega)) ?_
  refine ok_forU (fun k hk => ?_) ?_
  · have hk := rgI_mem.mp hk
    obtain ⟨s, es, rs, ps, as_, bs⟩ := lred (n := k) (d := (N : Int)) (k := 8) (l := 8) (by omega) (by omega) (by omega) (by omega) (by omega)
    have s0 := rs.pos
    have sq := ps.eq
    have sq1 : 0 ≤ k * s.2 := Int.mul_nonneg (by omega) (by omega)
    have sq2 : k * s.2 ≤ (N : Int) * s.2 := Int.mul_le_mul_of_nonneg_right (by omega) (by omega)
    have hS : Sur s := ⟨rs, Int.le_of_mul_le_mul_right (show 0 * (N : Int) ≤ s.1 * (N : Int) by omega) (by omega), Int.le_of_mul_le_mul_right (show s.1 * (N : Int) ≤ s.2 * (N : Int) by rw [Int.mul_comm s.2]; omega) (by omega), by omega⟩
    have bS : Bd 1600 s := Bd.mono (k := 8) ⟨by omega, by omega⟩ (by omega)
    refine ok_beq es (ok_beq (rngO_ok (by omega) (by omega) (by omega) (by omega)) ?_)
    refine ok_beq (v := (rangeI 0 ((N : Int) + 1)).filter fun x => decide (Eno N K s x.toNat)) ?_ ?_
    · rw [compO_ok (fun x : Int => decide (Eno N K s x.toNat)) (fun x => x) (by rw [rgI_len]; omega) (fun x hx => ?_), map_id']
      have hx := rgI_mem.mp hx
      obtain ⟨j, rfl⟩ := Int.eq_ofNat_of_zero_le hx.1
      obtain ⟨c, ec, hc⟩ := chance_ok (n := j) N1 (by omega) KN (by omega)
      have en := eno_chn hS (by omega) hc
      rw [ec, Option.bind_some, less_ok hc.bd bS (by omega), Option.bind_some, Int.toNat_natCast]
      by_cases q : Eno N K s j
      · have := en.mp q
        rw [decide_eq_false (show ¬ c.1 * s.2 < s.1 * c.2 by omega), decide_eq_true q]; rfl
      · have : c.1 * s.2 < s.1 * c.2 := Int.not_le.mp fun h => q (en.mpr h)
        rw [decide_eq_true this, decide_eq_false q]; rfl
    obtain ⟨r, er, hr2⟩ := least_ok hS N1 (by omega) KN
    refine ok_beq er ?_
    rcases hr2 with ⟨rfl, hn⟩ | ⟨L, rfl, l1, l2, l3⟩
    · have : (rangeI 0 ((N : Int) + 1)).filter (fun x => decide (Eno N K s x.toNat)) = [] := List.filter_eq_nil_iff.mpr fun x hx => by
        have hx := rgI_mem.mp hx
        have := hn x.toNat (by omega)
        simpa using this
      rw [this]
      exact ok_beq (v := none) (by rw [if_neg (by simp)]) (ok_ff (by simp) (ok_some trivial))
    · obtain ⟨rest, hrest⟩ := rg_first (p := fun x => decide (Eno N K s x.toNat)) L (a := 0) (j := (L : Int)) (b := (N : Int) + 1) (by omega) (by omega) (by omega) (by simpa using l2) fun i h1 h2 => by
        have := l3 i.toNat (by omega)
        simpa using this
      rw [hrest]
      refine ok_beq (v := some (L : Int)) ?_ (ok_ff (by simp) (ok_some trivial))
      rw [if_pos (by simp), ixO_ok (by omega) (by simp)]; rfl
  dsimp only
  refine ok_beq (rngO_ok (by omega) (by omega) (by omega) (by omega)) ?_
  obtain ⟨f, hf⟩ : ∃ f : Nat, f = min K 3 := ⟨_, rfl⟩
  rw [show min (K : Int) (3 : Int) = (f : Int) by omega]
  refine ok_bfor (fun _ s => s = s39) (fun s => s = s39) (fun _ => False) rfl (fun i x es hx hes => ?_) (fun s hs => hs) (fun s88 _ => ok_some rfl) (fun _ h => absurd h id)
  subst hes
  obtain ⟨rfl, hi⟩ := rgI_get hx
  obtain ⟨s, hs'⟩ : ∃ s : Nat, s = 1 + i := ⟨_, rfl⟩
  rw [show (1 : Int) + (i : Int) = (s : Int) by omega]
  have s1 : 1 ≤ s := by omega
  have sN : s ≤ N := by omega
  obtain ⟨t, ht, tN, hh⟩ := hps_law (N := N) N1 s1
  have tlt : t * s < N := by
    have := Nat.div_mul_le_self (N + s - 1) s
    rw [ht, Nat.add_mul, Nat.one_mul] at this; omega
  have tge : N ≤ t * s + s := by
    have := Nat.lt_div_mul_add (a := N + s - 1) (b := s) (by omega)
    rw [ht, Nat.add_mul, Nat.one_mul] at this; omega
  have hm := hps_map tlt tge hh
  have tt : t ≤ t * s := ts_ge s1
  have q51 : ((N : Int) - 0 + (s : Int) - 1) / (s : Int) = (t : Int) + 1 := by
    have : ((N + s - 1 : Nat) : Int) / (s : Int) = ((t + 1 : Nat) : Int) := by rw [← ht, Int.natCast_ediv]
    rw [show (N : Int) - 0 + (s : Int) - 1 = ((N + s - 1 : Nat) : Int) by omega, this]; omega
  refine ok_beq (v := (List.range (t + 1)).map fun i : Nat => (0 : Int) + (i : Int) * (s : Int)) ?_ ?_
  · unfold stpO Ev.stepI
    rw [if_pos ⟨by simp only [smallR, Bool.and_eq_true, decide_eq_true_eq]; omega, by omega, by omega⟩, q51, show ((t : Int) + 1).toNat = t + 1 by omega]
  refine ok_bfold (fun j h => h = (List.range j).map (hp N s)) rfl (fun j y h hy hh => ?_) (fun h hh => ?_)
  · subst hh
    have hj := (List.getElem?_eq_some_iff.mp hy).1
    rw [List.length_map, List.length_range] at hj
    have ey : y = ((j * s : Nat) : Int) := by
      rw [List.getElem?_map, List.getElem?_range hj] at hy
      have := Option.some.inj hy
      dsimp only at this
      rw [Int.natCast_mul]; omega
    subst ey
    have : j * s ≤ t * s := Nat.mul_le_mul_right _ (by omega)
    refine ok_beq (rngO_ok (by omega) (by omega) (by omega) (by omega)) (ok_beq (mapG_ok (by rw [rgI_len]; omega)) (ok_beq (pushO_ok (by simp; omega)) (ok_some ?_)))
    rw [List.range_succ, List.map_append, map_id']
    simp [hp]
  rw [List.length_map, List.length_range] at hh
  subst hh
  obtain ⟨S0, w1, w2, w3⟩ := worst (f := f) s1 tlt tge (by omega) (by omega)
  rw [← eE] at w1
  let val : List Int → Int := fun S => (t : Int) + 1 + (((List.range (t + 1)).filter (hit N s S)).map fun i => ((hp N s i).length : Int)).sum
  have lkv : lk N f s = (t : Int) + 1 + ((hps N s).take f).sum := by
    have e : ((hps N s).length : Int) = (t : Int) + 1 := by rw [hh]; simp
    unfold lk
    rw [e]
  refine ok_bfold (fun j z => z.1 = (List.range (t + 1)).map (hp N s) ∧ (∀ S ∈ es.take j, S.length = f → val S ≤ z.2) ∧ z.2 ≤ lk N f s) ⟨rfl, (fun S h => by simp at h), ?_⟩ (fun j S z hS hz => ?_) (fun z hz => ?_)
  · have : 0 ≤ ((hps N s).take f).sum := sum_nn fun x hx => by
      have hx := List.mem_of_mem_take hx
      rw [hm] at hx
      obtain ⟨i, _, rfl⟩ := List.mem_map.mp hx
      omega
    dsimp only
    omega
  · obtain ⟨hs1, w⟩ := z
    obtain ⟨z1, z2, z3⟩ := hz
    dsimp only at z1 z2 z3 ⊢
    subst z1
    have SE := List.mem_of_getElem? hS
    have Sl := sb S SE
    by_cases q : S.length = f
    · refine ok_tt (by simp; omega) (ok_beq (v := ((List.range (t + 1)).filter (hit N s S)).map fun i => ((hp N s i).length : Int)) ?_ (ok_some ⟨rfl, fun S' hS' l' => ?_, ?_⟩))
      · rw [compO_ok (fun h : List Int => decide (0 < ((h.filter fun x => decide (x ∈ S)).length : Int))) (fun h => (h.length : Int)) (by simp; omega) (fun h hh => ?_), List.filter_map, List.map_map]
        · rfl
        · obtain ⟨i, _, rfl⟩ := List.mem_map.mp hh
          have := hp_le (N := N) (s := s) (i := i)
          rw [filG_ok (by omega), Option.bind_some, map_id']
          cases decide (0 < (((hp N s i).filter fun x => decide (x ∈ S)).length : Int)) <;> rfl
      · rw [List.take_add_one, hS] at hS'
        have e1 : (((List.range (t + 1)).map (hp N s)).length : Int) = (t : Int) + 1 := by simp
        rw [e1]
        rcases List.mem_append.mp hS' with m | m
        · have := z2 S' m l'; dsimp only; omega
        · have : S' = S := by simpa using m
          subst this
          dsimp only [val]; omega
      · have e1 : (((List.range (t + 1)).map (hp N s)).length : Int) = (t : Int) + 1 := by simp
        have := hits_sum s1 tlt tge hm (S := S) (f := f) (by omega)
        rw [e1]
        dsimp only; omega
    · refine ok_ff (by simp; omega) (ok_some ⟨rfl, fun S' hS' l' => ?_, z3⟩)
      rw [List.take_add_one, hS] at hS'
      rcases List.mem_append.mp hS' with m | m
      · exact z2 S' m l'
      · have : S' = S := by simpa using m
        subst this
        exact absurd l' q
  · obtain ⟨_, z2, z3⟩ := hz
    rw [List.take_length] at z2
    have a := z2 S0 w1 w2
    have b := hits_ge (S := S0) (f := f) hm w3
    dsimp only [val] at a
    refine ok_beq (pooled_ok N1 (by omega) (by omega) (by omega) s1 sN) (ok_ff ?_ (ok_some rfl))
    have : lk N f s = z.2 := by omega
    simp [this]
end Tw
namespace Tw
open PySem Ev
theorem law_true : ∀ ns : List Int, ns.length ≤ 63 → run tb 20 (("law" : Str), none) [.d (.frl (ns.map .int))] = some (.d (.bl true), []) := fun ns h => by
  obtain ⟨v, h1, rfl⟩ := law_holds ns h
  rw [← rn_eq]
  exact l_law 12 h1
end Tw
set_option Elab.async false
set_option linter.all false
set_option maxRecDepth 100000
set_option maxHeartbeats 0
namespace Tw
open PySem PySem.Spec PyProof.Rows Ev L2
theorem facts {P : Program} {w : World} {K : PySem.W.Frag} {h : Heap} {mg : Str → Option Value} {f : Addr} (X : K.In h) (N : h.Ns mainGlobals mg) (hf : mg ("law" : Str) = some (.ref f)) (c : He.SaysD fa fn K) (cx : tb.ex K = true) :
    ∃ fd : FuncData, (∀ (s : Shared) (v : Value), BindsTo s fd ⟨[v], []⟩ [("script", v)]) ∧ ∀ base : Heap, K.In base → base.Ns mainGlobals mg → FnOk P w K mg base CX0 20 f fd ["script"] (Ev.spLaw K 63) := by
  have g : Good tb K mg := good_of X N c cx
  obtain ⟨fd, F⟩ := g.def_ d_law (find_of find_law).1
  have e := hf.symm.trans (g.glo d_law (find_of find_law).1 rfl)
  cases e
  have F2 : FunD K "law" "law" (defArgs d_law.st) (defBody d_law.st) (defScope d_law.st) [] [] (He.fAd K ("law", none)) fd := F
  have b := FunD.bindsA (ps := ["script"]) F2 fun _ _ _ _ _ _ us hl => match us, hl with | [_], _ => rfl
  exact ⟨fd, fun s v => b s [v] rfl, fun base _ _ => law_ok tb_ok g find_law rfl rfl F law_true⟩
end Tw
open PySem PySem.W PySem.Calls PyProof.Rows
theorem PySem.Challenge.cw_turnwright_k68_checks_of_the_club_book_holds : PySem.Challenge.rw_turnwright_k68_checks_of_the_club_book.Holds := by
  w_on; o_law
  refine HandSHeadRun.head_imp (r := OpenLaw.row PySem.Challenge.rw_turnwright_k68_checks_of_the_club_book) (q := view (OpenLaw.row PySem.Challenge.rw_turnwright_k68_checks_of_the_club_book).prog [0, 61]) (H := Tw.hk) (ob := Tw.ob) (M := 20000) (loose := Tw.loose) (d := HandSHeadRun.topDef (OpenLaw.row PySem.Challenge.rw_turnwright_k68_checks_of_the_club_book).prog 61) (kwd := []) Tw.ob_eq
    Tw.run_top (by kernel_rfl) (by kernel_rfl) (by kernel_rfl) (by rfl) (by first | assumption | decide +kernel) (by decide +kernel) ⟨rfl, rfl, rfl, rfl, rfl, by decide +kernel⟩ ?hw ?hc
  case hw => w_witness2
  case hc =>
    refine L2.walk_ofE (l := PySem.Challenge.rw_turnwright_k68_checks_of_the_club_book) (n := 63) (k := 20) (x := "script") (CX := L2.CX0) rfl (by decide) (by kernel_rfl) ⟨rfl, by decide, by decide⟩ ?F (fun _ _ _ _ z => z)
    intro w mg fa h Y N hmg0
    obtain ⟨K, KX, c, cx⟩ := Y
    have hmg : mg ("law" : PySem.Str) = some (.ref fa) := by
      have e : (HandSHeadRun.topDef (OpenLaw.row PySem.Challenge.rw_turnwright_k68_checks_of_the_club_book).prog 61).name = ("law" : PySem.Str) := by kernel_rfl
      rw [← e]
      exact hmg0
    obtain ⟨fd, hb, hF⟩ := Tw.facts (P := (PySem.Challenge.rw_turnwright_k68_checks_of_the_club_book).prog) (w := w) KX N hmg c cx
    exact ⟨K, fd, Ev.spLaw K 63, KX, hb, fun H a ns hl _ hS => ⟨a, ns, rfl, hS, hl, fun _ => rfl⟩, hF⟩
