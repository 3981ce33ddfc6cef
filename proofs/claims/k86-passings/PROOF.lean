import PyProof.Rows.All
import Wide.All
import OpenK.AllK
import Wide.FinOn
import KE.KStateDown
import HandS.ForMost
import HandS.Defaults
import HandS.Zip
import HandS.TupAny
import HandS.Star
import HandS.Wide
import HandS.Flow
import HandS.Style
import HandS.Deep
import HandS.TupMul
import HandS.SortKw
import KE.SortData
import KE.KeyNested
import KE.KDictKeyed
import HandS.Dict
import PyProof.ListStr
import PyProof.TupleOfStr
import KE.OsSortAny
import HandS.Conv
import HandS.TupSets
import HandS.Strs
import HandS.SetFor
import HandS.Set
import HandS.IsInst
import HandS.DeepEq
import PyProof.Rows.StrRev
import PyProof.Rows.StrCountLaw
import PyProof.Rows.RegReprOcc
import KE.KRevSl
import HandS.Iter
import KE.GoesEnum
import KE.GoesMore
import KE.GoesZip
import KE.KDictZip
import HandS.Comp
import HandS.More
import HandS.Codes
import HandS.Exc
import HandS.ExcOwn
import HandS.Small
import HandS.ExcIs
import HandS.Words
import HandS.Head0
import HandS.Head1
import HandS.Head2
import HandS.HeadEnd
import HandS.HeadHook1
import HandS.HeadHook2
import HandS.HeadHook4
import PySem.Challenge.RW_anyareas_k86_passings_between_forms
set_option maxRecDepth 100000
set_option maxHeartbeats 2000000
/-! What an expression, a statement, a def of the text gives, on plain data (PyData). -/
set_option Elab.async false
set_option linter.all false
namespace Dl
open PySem PySem.Spec L2
open PyProof.Rows hiding St

abbrev D := PyData
inductive SV where
  | un
  | val (d : D)
  | own (ds : List D)
  | tab (kvs : List (D × D))
abbrev Rho := List SV
inductive Fl where
  | nx | rt (d : D) | bk | ct
abbrev EV := Rho → Option (D × Rho)
abbrev TV := Rho → Option (Bool × Rho)
abbrev AV := Rho → Option (List D × Rho)
abbrev GV := D → Rho → Option Rho
abbrev ZV := Rho → Option (Fl × Rho)
structure FnI where
  ps : List Str
  own : Bool
  star : Bool
  fr : Bool
  kw : List (List Str)
  tab : Bool
  sem : List D → List D → Option (D × List D)
  rz : List D → Bool
abbrev GT := Str → Option FnI

/-! ### keys, tables -/
mutual
def nkD : D → Option NestedKey
  | .none => some .none
  | .bool b => some (.num (if b = true then 1 else 0))
  | .int i => some (.num i)
  | .str x => some (.text x)
  | .tuple ds => (nkAll ds).map .tup
  | .list _ => none
  | .dict _ => none
def nkAll : List D → Option (List NestedKey)
  | [] => some []
  | d :: ds => match nkD d with
    | none => none
    | some k => (nkAll ds).map (k :: ·)
end
abbrev TabD := List (D × D)
def tabGet (tab : TabD) (k : NestedKey) : Option D := (tab.find? fun p => decide (nkD p.1 = some k)).map (·.2)
def tabPut (tab : TabD) (d : D) (k : NestedKey) (v : D) : TabD :=
  if (tabGet tab k).isSome then tab.map (fun p => if nkD p.1 = some k then (p.1, v) else p) else tab ++ [(d, v)]
/-- a key of a dict, of a set: a tuple, nested to depth 8 -/
def keyT : D → Option NestedKey
  | .tuple ds => match nkD (.tuple ds) with
    | some k => match decide (k.depth ≤ 8) with
      | true => some k
      | false => none
    | none => none
  | _ => none
def noDict : D → Bool
  | .dict _ => false
  | _ => true
/-! ### operations on data -/
def line : Nat := 16777216
def chk (b : Bool) (d : D) : Option D := match b with | true => some d | false => none
def in64 (i : Int) : Bool := decide (-(2 ^ 64) < i) && decide (i < 2 ^ 64)
def in62 (i : Int) : Bool := decide (-(2 ^ 62) ≤ i) && decide (i < 2 ^ 62)
def rep (k : Nat) (xs : List D) : List D := (List.replicate k xs).flatten
def repS (k : Nat) (z : Str) : Str := ⟨(List.replicate k z.cps.toList).flatten.toArray⟩
def opAdd : D → D → Option D
  | .int i, .int j => some (.int (i + j))
  | .str x, .str y => chk (decide (x.length + y.length ≤ line)) (.str (x ++ y))
  | .list xs, .list ys => chk (decide (xs.length + ys.length ≤ line)) (.list (xs ++ ys))
  | .tuple xs, .tuple ys => chk (decide (xs.length + ys.length ≤ line)) (.tuple (xs ++ ys))
  | _, _ => none
def opSub : D → D → Option D
  | .int i, .int j => some (.int (i - j))
  | _, _ => none
def opMul : D → D → Option D
  | .int i, .int j => chk (in64 i || in64 j) (.int (i * j))
  | .str x, .int k => chk (in62 k && decide (x.length * k.toNat ≤ line)) (.str (repS k.toNat x))
  | _, _ => none
def opMod : D → D → Option D
  | .int i, .int j => chk (decide (0 < j)) (.int (i % j))
  | _, _ => none
def opDiv : D → D → Option D
  | .int i, .int j => chk (decide (0 < j) && decide (j < 1073741824)) (.int (i / j))
  | _, _ => none
def opPow : D → D → Option D
  | .int i, .int j => chk (decide (0 ≤ j) && decide (j ≤ 1000000) && decide (i.natAbs < 2 ^ 64)) (.int (i ^ j.toNat))
  | _, _ => none
def binOp : Operator → D → D → Option D
  | .Add => opAdd
  | .Sub => opSub
  | .Mult => opMul
  | .Mod => opMod
  | .FloorDiv => opDiv
  | .Pow => opPow
  | _ => fun _ _ => none
def shp (d : D) : Bool := SeqAt.shaped d
def cmpI (f : Int → Int → Bool) : D → D → Option Bool
  | .int i, .int j => some (f i j)
  | _, _ => none
def opIn : D → D → Option Bool
  | d, .list ds => match shp d && shp (.list ds) with | true => some (ds.any fun z => PyData.eqv z d) | false => none
  | d, .tuple ds => match shp d && shp (.tuple ds) with | true => some (ds.any fun z => PyData.eqv z d) | false => none
  | _, _ => none
def opEq (d e : D) : Option Bool := match shp d && shp e with | true => some (PyData.eqv d e) | false => none
def isNone : D → Bool
  | .none => true
  | _ => false
def cmpOp : CmpOp → D → D → Option Bool
  | .Eq => opEq
  | .NotEq => fun d e => (opEq d e).map (!·)
  | .Lt => cmpI fun i j => decide (i < j)
  | .LtE => cmpI fun i j => decide (i ≤ j)
  | .Gt => cmpI fun i j => decide (j < i)
  | .GtE => cmpI fun i j => decide (j ≤ i)
  | .In => opIn
  | .NotIn => fun d e => (opIn d e).map (!·)
  | .Is => fun d e => match isNone e with | true => some (isNone d) | false => none
  | .IsNot => fun d e => match isNone e with | true => some (!isNone d) | false => none
def truth : D → Option Bool
  | .none => some false
  | .bool b => some b
  | .int i => some (i != 0)
  | .str x => match decide (x.length ≤ line) with | true => some (x.length != 0) | false => none
  | .list xs => some (!xs.isEmpty)
  | .tuple xs => some (!xs.isEmpty)
  | .dict _ => none
/-- xs[i] -/
def item : D → D → Option D
  | .list xs, .int i => atI xs i
  | .tuple xs, .int i => atI xs i
  | .str z, .int i => match decide (z.length ≤ line) with | true => (atI z.cps.toList i).map fun c => .str ⟨#[c]⟩ | false => none
  | _, _ => none
def cutD (xs : List D) (lo hi : Option Int) : List D := (xs.drop (HT.sIx xs.length 0 lo)).take (HT.sIx xs.length xs.length hi - HT.sIx xs.length 0 lo)
def slice : D → Option Int → Option Int → Option D
  | .list xs, lo, hi => some (.list (cutD xs lo hi))
  | .tuple xs, lo, hi => some (.tuple (cutD xs lo hi))
  | .str z, lo, hi => match decide (z.length ≤ line) with | true => some (.str (cutS z lo hi)) | false => none
  | _, _, _ => none
/-! ### sorting -/
def dLe (x y : D) : Bool := !PySem.W.dataLt y x
def ins (x : D) : List D → List D
  | [] => [x]
  | y :: ys => match dLe x y with | true => x :: y :: ys | false => y :: ins x ys
def isort : List D → List D
  | [] => []
  | x :: xs => ins x (isort xs)
def isTupC : D → Bool
  | .tuple (_ :: _) => true
  | _ => false
def noTup : D → Bool
  | .none => false
  | .tuple _ => false
  | _ => true
def sortB (ds : List D) : Bool := decide (ds.length ≤ line) && (ds.all fun d => ds.all fun e => PySem.W.alike d e) && (ds.all isTupC || ds.all noTup) && ds.all fun d => decide (d.depth ≤ 64)
/-- one thing alone, an empty tuple, too -/
def oneB (ds : List D) : Bool := decide (ds.length ≤ 1) && (ds.all fun d => PySem.W.alike d d) && (ds.all fun d => match d with | .none => false | _ => true) && ds.all fun d => decide (d.depth ≤ 64)
def sortB1 (ds : List D) : Bool := sortB ds || oneB ds
def opSorted : D → Option D
  | .list ds => chk (sortB ds) (.list (isort ds))
  | .tuple ds => chk (sortB ds) (.list (isort ds))
  | _ => none
/-! ### built-in functions of one value -/
def opLen : D → Option D
  | .list xs => some (.int xs.length)
  | .tuple xs => some (.int xs.length)
  | .str z => chk (decide (z.length ≤ line)) (.int z.length)
  | _ => none
def opAbs : D → Option D
  | .int i => some (.int (if i < 0 then -i else i))
  | _ => none
def opNeg : D → Option D
  | .int i => some (.int (-i))
  | _ => none
def opInt : D → Option D
  | .int i => some (.int i)
  | .bool b => some (.int (if b then 1 else 0))
  | _ => none
def chars (z : Str) : List D := z.cps.toList.map fun c => .str ⟨#[c]⟩
def opTuple : D → Option D
  | .list xs => some (.tuple xs)
  | .tuple xs => some (.tuple xs)
  | .str z => chk (decide (z.length ≤ line)) (.tuple (chars z))
  | _ => none
def opList : D → Option D
  | .list xs => some (.list xs)
  | .tuple xs => some (.list xs)
  | .str z => chk (decide (z.length ≤ line)) (.list (chars z))
  | _ => none
def ints? : List D → Option (List Int)
  | [] => some []
  | .int i :: r => (ints? r).map (i :: ·)
  | _ :: _ => none
def bools? : List D → Option (List Bool)
  | [] => some []
  | .bool b :: r => (bools? r).map (b :: ·)
  | _ :: _ => none
def strs? : List D → Option (List Str)
  | [] => some []
  | .str x :: r => (strs? r).map (x :: ·)
  | _ :: _ => none
def opSum : D → Option D
  | .list ds => (ints? ds).map fun ns => .int ns.sum
  | _ => none
def opAny : D → Option D
  | .list ds => (bools? ds).map fun bs => .bool (bs.any id)
  | _ => none
def opAll : D → Option D
  | .list ds => (bools? ds).map fun bs => .bool (bs.all id)
  | _ => none
def least : Int → List Int → Int
  | m, [] => m
  | m, x :: r => least (if x < m then x else m) r
def most : Int → List Int → Int
  | m, [] => m
  | m, x :: r => most (if x > m then x else m) r
def opMin : D → Option D
  | .list ds => match ints? ds with
    | some (m :: r) => some (.int (least m r))
    | _ => none
  | _ => none
def opMax : D → Option D
  | .list ds => match ints? ds with
    | some (m :: r) => some (.int (most m r))
    | _ => none
  | _ => none
def opMin2 : D → D → Option D
  | .int i, .int j => some (.int (if j < i then j else i))
  | _, _ => none
def opMax2 : D → D → Option D
  | .int i, .int j => some (.int (if j > i then j else i))
  | _, _ => none
/-- sorted(set(..)): ints, each once -/
def once : List Int → List Int
  | [] => []
  | x :: r => if x ∈ r then once r else x :: once r
/-! sorted(set(..)): tuples that are keys, none of them with a bool, each once -/
mutual
def plainK : D → Bool
  | .bool _ => false
  | .list _ => false
  | .dict _ => false
  | .tuple ds => plainAll ds
  | _ => true
def plainAll : List D → Bool
  | [] => true
  | d :: r => plainK d && plainAll r
end
def onceK : List D → List D
  | [] => []
  | x :: r => match r.any fun y => decide (keyT y = keyT x) with
    | true => onceK r
    | false => x :: onceK r
def setB (ds : List D) : Bool := (ds.all fun d => (keyT d).isSome && plainK d) && decide ((onceK ds).length < 64) && sortB (onceK ds) && (onceK ds).all fun x => (onceK ds).all fun y => !(dLe x y && dLe y x) || decide (keyT x = keyT y)
def opSortedSet : D → Option D
  | .list ds => match ints? ds with
    | some ns => chk (decide (ds.length < 64)) (.list (isort ((once ns).map .int)))
    | none => chk (setB ds) (.list (isort (onceK ds)))
  | _ => none
/-- the types that isinstance asks -/
inductive Ty where
  | list | tuple | dict | str | int | bool
  deriving DecidableEq
def isTy : Ty → D → Bool
  | .list, .list _ => true
  | .tuple, .tuple _ => true
  | .dict, .dict _ => true
  | .str, .str _ => true
  | .int, .int _ => true
  | .int, .bool _ => true
  | .bool, .bool _ => true
  | _, _ => false
def isTys (ts : List Ty) (d : D) : Bool := ts.any fun t => isTy t d
def opCount : D → D → Option D
  | .str x, .str y => match y.cps.toList with
    | [c] => some (.int (x.cps.toList.count c : Nat))
    | _ => none
  | .list ds, d => match shp d && shp (.list ds) with | true => some (.int (ds.countP fun z => PyData.eqv z d)) | false => none
  | _, _ => none
def opJoin : D → D → Option D
  | .str a, .list ds => match strs? ds with
    | some ys => chk (decide ((ys.map (·.length)).sum + ys.length * a.length ≤ line)) (.str (Txt.join a ys))
    | none => none
  | _, _ => none
def opRev : D → Option D
  | .list xs => some (.list xs.reverse)
  | .tuple xs => some (.tuple xs.reverse)
  | .str z => chk (decide (z.length ≤ line)) (.str ⟨z.cps.toList.reverse.toArray⟩)
  | _ => none

/-! ### expressions -/
namespace C
def fail {α β : Type} : α → Option β := fun _ => none
def const : Const → EV
  | .int i => fun ρ => some (.int i, ρ)
  | .str x => fun ρ => some (.str x, ρ)
  | .bool b => fun ρ => some (.bool b, ρ)
  | .none => fun ρ => some (.none, ρ)
  | _ => fail
/-- a name: an own list that is handed on stands still from here on -/
def var (i : Nat) : EV := fun ρ => match ρ[i]? with
  | some (.val d) => some (d, ρ)
  | some (.own ds) => some (.list ds, ρ.set i (.val (.list ds)))
  | _ => none
/-- a name that is never handed on while it is own -/
def varV (i : Nat) : EV := fun ρ => match ρ[i]? with
  | some (.val d) => some (d, ρ)
  | _ => none
def un1 (f : D → Option D) (a : EV) : EV := fun ρ => match a ρ with
  | some (x, ρ1) => (f x).map fun d => (d, ρ1)
  | none => none
def bin (f : D → D → Option D) (a b : EV) : EV := fun ρ => match a ρ with
  | some (x, ρ1) => match b ρ1 with
    | some (y, ρ2) => (f x y).map fun d => (d, ρ2)
    | none => none
  | none => none
def cmp (f : D → D → Option Bool) (a b : EV) : TV := fun ρ => match a ρ with
  | some (x, ρ1) => match b ρ1 with
    | some (y, ρ2) => (f x y).map fun d => (d, ρ2)
    | none => none
  | none => none
def chain (f g : D → D → Option Bool) (a b c : EV) : TV := fun ρ => match a ρ with
  | some (x, ρ1) => match b ρ1 with
    | some (y, ρ2) => match f x y with
      | some true => match c ρ2 with
        | some (z, ρ3) => (g y z).map fun d => (d, ρ3)
        | none => none
      | some false => some (false, ρ2)
      | none => none
    | none => none
  | none => none
def ofT (t : TV) : EV := fun ρ => (t ρ).map fun p => (.bool p.1, p.2)
def test (a : EV) : TV := fun ρ => match a ρ with
  | some (x, ρ1) => (truth x).map fun b => (b, ρ1)
  | none => none
def not (t : TV) : TV := fun ρ => (t ρ).map fun p => (!p.1, p.2)
def and (s t : TV) : TV := fun ρ => match s ρ with
  | some (true, ρ1) => t ρ1
  | some (false, ρ1) => some (false, ρ1)
  | none => none
def or (s t : TV) : TV := fun ρ => match s ρ with
  | some (true, ρ1) => some (true, ρ1)
  | some (false, ρ1) => t ρ1
  | none => none
def andV (a b : EV) : EV := fun ρ => match a ρ with
  | some (x, ρ1) => match truth x with
    | some true => b ρ1
    | some false => some (x, ρ1)
    | none => none
  | none => none
def orV (a b : EV) : EV := fun ρ => match a ρ with
  | some (x, ρ1) => match truth x with
    | some true => some (x, ρ1)
    | some false => b ρ1
    | none => none
  | none => none
def ifx (t : TV) (a b : EV) : EV := fun ρ => match t ρ with
  | some (true, ρ1) => a ρ1
  | some (false, ρ1) => b ρ1
  | none => none
def nil : AV := fun ρ => some ([], ρ)
def cons (a : EV) (r : AV) : AV := fun ρ => match a ρ with
  | some (x, ρ1) => match r ρ1 with
    | some (xs, ρ2) => some (x :: xs, ρ2)
    | none => none
  | none => none
def star (a : EV) (r : AV) : AV := fun ρ => match a ρ with
  | some (.tuple xs, ρ1) => match r ρ1 with
    | some (ys, ρ2) => some (xs ++ ys, ρ2)
    | none => none
  | some (.list xs, ρ1) => match r ρ1 with
    | some (ys, ρ2) => some (xs ++ ys, ρ2)
    | none => none
  | _ => none
def tup (r : AV) : EV := fun ρ => match r ρ with
  | some (xs, ρ1) => (chk (decide (xs.length ≤ line)) (.tuple xs)).map fun d => (d, ρ1)
  | none => none
def lst (r : AV) : EV := fun ρ => match r ρ with
  | some (xs, ρ1) => (chk (decide (xs.length ≤ line)) (.list xs)).map fun d => (d, ρ1)
  | none => none
/-- [..] * e -/
def repL (r : AV) (b : EV) : EV := fun ρ => match r ρ with
  | some (xs, ρ1) => match decide (xs.length ≤ line), b ρ1 with
    | true, some (.int k, ρ2) => (chk (in62 k && decide (xs.length * k.toNat ≤ line)) (.list (rep k.toNat xs))).map fun d => (d, ρ2)
    | _, _ => none
  | none => none
/-- x[e], len(x) of an own list: it stays own -/
def subOwn (i : Nat) (b : EV) : EV := fun ρ => match ρ[i]? with
  | some (.own _) => match b ρ with
    | some (.int k, ρ1) => match ρ1[i]? with
      | some (.own ds) => (atI ds k).map fun d => (d, ρ1)
      | _ => none
    | _ => none
  | _ => bin item (varV i) b ρ
/-- t[e], e in t, sorted(t) of a table -/
def isTab : Option SV → Bool
  | some (.tab _) => true
  | _ => false
def subTab (i : Nat) (b : EV) : EV := fun ρ => match isTab ρ[i]? with
  | true => match b ρ with
    | some (k, ρ1) => match ρ1[i]?, keyT k with
      | some (.tab kvs), some nk => (tabGet kvs nk).map fun d => (d, ρ1)
      | _, _ => none
    | none => none
  | false => none
def inTab (neg : Bool) (i : Nat) (a : EV) : TV := fun ρ => match a ρ with
  | some (k, ρ1) => match ρ1[i]?, keyT k with
    | some (.tab kvs), some nk => some ((tabGet kvs nk).isSome != neg, ρ1)
    | _, _ => none
  | none => none
def sortTab (i : Nat) : EV := fun ρ => match ρ[i]? with
  | some (.tab kvs) => (chk (sortB1 (kvs.map (·.1))) (.list (isort (kvs.map (·.1))))).map fun d => (d, ρ)
  | _ => none
def lenOwn (i : Nat) : EV := fun ρ => match ρ[i]? with
  | some (.own ds) => some (.int ds.length, ρ)
  | _ => un1 opLen (varV i) ρ
/-- a slice's part -/
def noPart : Rho → Option (Option Int × Rho) := fun ρ => some (none, ρ)
def part (a : EV) : Rho → Option (Option Int × Rho) := fun ρ => match a ρ with
  | some (.int i, ρ1) => some (some i, ρ1)
  | _ => none
def sl (a : EV) (lo hi : Rho → Option (Option Int × Rho)) : EV := fun ρ => match a ρ with
  | some (x, ρ1) => match lo ρ1 with
    | some (l, ρ2) => match hi ρ2 with
      | some (h, ρ3) => (slice x l h).map fun d => (d, ρ3)
      | none => none
    | none => none
  | none => none
/-- f(..), nothing of one's own handed over -/
def call (I : FnI) (r : AV) : EV := fun ρ => match r ρ with
  | some (xs, ρ1) => match I.sem [] xs with
    | some (d, []) => some (d, ρ1)
    | _ => none
  | none => none
/-- f(x, ..), x an own list that f may change -/
def callO (I : FnI) (i : Nat) (r : AV) : EV := fun ρ => match ρ[i]? with
  | some (.own _) => match r ρ with
    | some (xs, ρ1) => match ρ1[i]? with
      | some (.own ds) => match I.sem ds xs with
        | some (d, out) => some (d, ρ1.set i (.own out))
        | none => none
      | _ => none
    | none => none
  | _ => none
/-- x.pop(e), x an own list -/
def popOwn (i : Nat) (b : EV) : EV := fun ρ => match ρ[i]? with
  | some (.own _) => match b ρ with
    | some (.int k, ρ1) => match ρ1[i]? with
      | some (.own ds) => match in62 k, ixN ds.length k with
        | true, some j => match ds[j]? with
          | some d => some (d, ρ1.set i (.own (ds.eraseIdx j)))
          | none => none
        | _, _ => none
      | _ => none
    | _ => none
  | _ => none
/-! what is walked -/
def walk : D → Option (List D)
  | .list xs => some xs
  | .tuple xs => some xs
  | .str z => some (chars z)
  | _ => none
def iter (a : EV) : AV := fun ρ => match a ρ with
  | some (x, ρ1) => (walk x).map fun ds => (ds, ρ1)
  | none => none
def upTo (lo : Int) (n : Nat) : List D := (List.range n).map fun (i : Nat) => PyData.int (lo + i)
def range1 (a : EV) : AV := fun ρ => match a ρ with
  | some (.int j, ρ1) => match in62 j with
    | true => some (upTo 0 j.toNat, ρ1)
    | false => none
  | _ => none
def range2 (a b : EV) : AV := fun ρ => match a ρ with
  | some (.int i, ρ1) => match b ρ1 with
    | some (.int j, ρ2) => match in62 i && in62 j with
      | true => some (upTo i (j - i).toNat, ρ2)
      | false => none
    | _ => none
  | _ => none
def seqOf : D → Option (List D)
  | .list xs => some xs
  | .tuple xs => some xs
  | _ => none
def number : Nat → List D → List D
  | _, [] => []
  | k, x :: r => .tuple [.int k, x] :: number (k + 1) r
def enum (a : EV) : AV := fun ρ => match a ρ with
  | some (x, ρ1) => (seqOf x).map fun ds => (number 0 ds, ρ1)
  | none => none
def zipD : List D → List D → List D
  | x :: xs, y :: ys => .tuple [x, y] :: zipD xs ys
  | _, _ => []
def zip2 (a b : EV) : AV := fun ρ => match a ρ with
  | some (x, ρ1) => match b ρ1 with
    | some (y, ρ2) => match x, y with
      | .list xs, .list ys => some (zipD xs ys, ρ2)
      | .tuple xs, .tuple ys => some (zipD xs ys, ρ2)
      | _, _ => none
    | none => none
  | none => none
def zipD3 : List D → List D → List D → List D
  | x :: xs, y :: ys, z :: zs => .tuple [x, y, z] :: zipD3 xs ys zs
  | _, _, _ => []
def zip3 (a b c : EV) : AV := fun ρ => match a ρ with
  | some (x, ρ1) => match b ρ1 with
    | some (y, ρ2) => match c ρ2 with
      | some (z, ρ3) => match x, y, z with
        | .list xs, .list ys, .list zs => some (zipD3 xs ys zs, ρ3)
        | .tuple xs, .tuple ys, .tuple zs => some (zipD3 xs ys zs, ρ3)
        | _, _, _ => none
      | none => none
    | none => none
  | none => none
/-! targets -/
def tgName (i : Nat) : GV := fun d ρ => match decide (i < ρ.length) with | true => some (ρ.set i (.val d)) | false => none
def tgNil : List D → Rho → Option Rho
  | [], ρ => some ρ
  | _ :: _, _ => none
def tgCons (g : GV) (r : List D → Rho → Option Rho) : List D → Rho → Option Rho
  | [], _ => none
  | d :: ds, ρ => match g d ρ with
    | some ρ1 => r ds ρ1
    | none => none
def tgTup (r : List D → Rho → Option Rho) : GV
  | .tuple ds, ρ => r ds ρ
  | _, _ => none
/-! a list comprehension: vs, the slots of its own names -/
def wipeR (ρ : Rho) : List Nat → Rho
  | [] => ρ
  | v :: vs => (wipeR ρ vs).set v .un
def back (ρ ρ' : Rho) : List Nat → Rho
  | [] => ρ'
  | v :: vs => (back ρ ρ' vs).set v (ρ.getD v .un)
def notOwn : Option SV → Bool
  | some (.own _) => false
  | some (.tab _) => false
  | _ => true
def yes : TV := fun ρ => some (true, ρ)
def lcTurn (g : GV) (t : TV) (e : EV) (d : D) (ρ : Rho) : Option (Option D × Rho) := match g d ρ with
  | some ρ1 => match t ρ1 with
    | some (true, ρ2) => (e ρ2).map fun p => (some p.1, p.2)
    | some (false, ρ2) => some (none, ρ2)
    | none => none
  | none => none
def lcLoop (vs : List Nat) (turn : D → Rho → Option (Option D × Rho)) : List D → List D → Rho → Option (List D × Rho)
  | [], acc, ρ => some (acc, ρ)
  | d :: ds, acc, ρ => match turn d ρ with
    | some (some y, ρ1) => match decide (acc.length < line) with
      | true => lcLoop vs turn ds (acc ++ [y]) (wipeR ρ1 vs)
      | false => none
    | some (none, ρ1) => lcLoop vs turn ds acc (wipeR ρ1 vs)
    | none => none
def lc (vs : List Nat) (it : AV) (g : GV) (t : TV) (e : EV) : EV := fun ρ => match it ρ with
  | some (ds, ρ1) => match vs.all fun v => notOwn ρ1[v]? with
    | true => match lcLoop vs (lcTurn g t e) ds [] (wipeR ρ1 vs) with
      | some (ys, ρ2) => some (.list ys, back ρ1 ρ2 vs)
      | none => none
    | false => none
  | none => none
end C

/-! ### statements -/
namespace S
def seq (a b : ZV) : ZV := fun ρ => match a ρ with
  | some (.nx, ρ1) => b ρ1
  | r => r
def skip : ZV := fun ρ => some (.nx, ρ)
def brk : ZV := fun ρ => some (.bk, ρ)
def cont : ZV := fun ρ => some (.ct, ρ)
def ret (a : EV) : ZV := fun ρ => (a ρ).map fun p => (.rt p.1, p.2)
def retN : ZV := fun ρ => some (.rt .none, ρ)
def svOf : Bool → D → SV
  | true, .list ds => .own ds
  | _, d => .val d
/-- x = e; fr: where it gives a list, that is a new one -/
def asg (i : Nat) (fr : Bool) (a : EV) : ZV := fun ρ => match a ρ with
  | some (d, ρ1) => match decide (i < ρ1.length) with
    | true => some (.nx, ρ1.set i (svOf fr d))
    | false => none
  | none => none
/-- target = e -/
def asgG (g : GV) (a : EV) : ZV := fun ρ => match a ρ with
  | some (d, ρ1) => (g d ρ1).map fun ρ2 => (.nx, ρ2)
  | none => none
/-- a, b = e, e' -/
def par (i j : Nat) (fa fb : Bool) (a b : EV) : ZV := fun ρ => match a ρ with
  | some (x, ρ1) => match b ρ1 with
    | some (y, ρ2) => match decide (i ≠ j) && decide (i < ρ2.length) && decide (j < ρ2.length) with
      | true => some (.nx, (ρ2.set i (svOf fa x)).set j (svOf fb y))
      | false => none
    | none => none
  | none => none
/-- x op= e -/
def aug (i : Nat) (f : D → D → Option D) (a : EV) : ZV := fun ρ => match ρ[i]? with
  | some (.val x) => match a ρ with
    | some (y, ρ1) => match f x y with
      | some d => some (.nx, ρ1.set i (.val d))
      | none => none
    | none => none
  | _ => none
def setItem (i : Nat) (b a : EV) : ZV := fun ρ => match a ρ with
  | some (d, ρ1) => match ρ1[i]? with
    | some (.own _) => match b ρ1 with
      | some (.int k, ρ2) => match ρ2[i]? with
        | some (.own ds) => match ixN ds.length k with
          | some j => some (.nx, ρ2.set i (.own (ds.set j d)))
          | none => none
        | _ => none
      | _ => none
    | _ => none
  | none => none
/-- t[e] = e', t a table -/
def setTab (i : Nat) (b a : EV) : ZV := fun ρ => match a ρ with
  | some (d, ρ1) => match C.isTab ρ1[i]? with
    | true => match b ρ1 with
      | some (k, ρ2) => match ρ2[i]?, keyT k with
        | some (.tab kvs), some nk => match decide (kvs.length < line) with
          | true => some (.nx, ρ2.set i (.tab (tabPut kvs k nk d)))
          | false => none
        | _, _ => none
      | none => none
    | false => none
  | none => none
/-- t, a, b = {}, e, e' -/
def newTab (i j k : Nat) (fa fb : Bool) (a b : EV) : ZV := fun ρ => match decide (i ≠ j) && decide (i ≠ k) && decide (i < ρ.length) with
  | true => match par j k fa fb a b ρ with
    | some (.nx, ρ1) => some (.nx, ρ1.set i (.tab []))
    | _ => none
  | false => none
/-- t = f(..), f gives a table -/
def asgTab (i : Nat) (I : FnI) (r : AV) : ZV := fun ρ => match r ρ with
  | some (xs, ρ1) => match I.sem [] xs, decide (i < ρ1.length) with
    | some (.dict kvs, []), true => some (.nx, ρ1.set i (.tab kvs))
    | _, _ => none
  | none => none
/-- return t -/
def retTab (i : Nat) : ZV := fun ρ => match ρ[i]? with
  | some (.tab kvs) => some (.rt (.dict kvs), ρ)
  | _ => none
def append (i : Nat) (a : EV) : ZV := fun ρ => match ρ[i]? with
  | some (.own _) => match a ρ with
    | some (d, ρ1) => match ρ1[i]? with
      | some (.own ds) => match decide (ds.length < line) with
        | true => some (.nx, ρ1.set i (.own (ds ++ [d])))
        | false => none
      | _ => none
    | none => none
  | _ => none
def drop (a : EV) : ZV := fun ρ => (a ρ).map fun p => (.nx, p.2)
def ite (t : TV) (a b : ZV) : ZV := fun ρ => match t ρ with
  | some (true, ρ1) => a ρ1
  | some (false, ρ1) => b ρ1
  | none => none
def forL (g : GV) (b : ZV) : List D → ZV
  | [], ρ => some (.nx, ρ)
  | d :: ds, ρ => match g d ρ with
    | some ρ1 => match b ρ1 with
      | some (.nx, ρ2) => forL g b ds ρ2
      | some (.ct, ρ2) => forL g b ds ρ2
      | some (.bk, ρ2) => some (.nx, ρ2)
      | some (.rt d, ρ2) => some (.rt d, ρ2)
      | none => none
    | none => none
def for_ (it : AV) (g : GV) (b : ZV) : ZV := fun ρ => match it ρ with
  | some (ds, ρ1) => forL g b ds ρ1
  | none => none
def whileL (t : TV) (b : ZV) : Nat → ZV
  | 0, _ => none
  | n + 1, ρ => match t ρ with
    | some (true, ρ1) => match b ρ1 with
      | some (.nx, ρ2) => whileL t b n ρ2
      | some (.ct, ρ2) => whileL t b n ρ2
      | some (.bk, ρ2) => some (.nx, ρ2)
      | some (.rt d, ρ2) => some (.rt d, ρ2)
      | none => none
    | some (false, ρ1) => some (.nx, ρ1)
    | none => none
def fuel : Nat := 100000
def while_ (t : TV) (b : ZV) : ZV := whileL t b fuel
end S
/-- a def: its own parameter first, if it has one -/
def runDef (own : Bool) (np nl : Nat) (body : ZV) (os xs : List D) : Option (D × List D) := match own, os with
  | true, os => match decide (xs.length + 1 = np), body (.own os :: xs.map .val ++ List.replicate (nl - np) .un) with
    | true, some (.rt d, .own out :: _) => some (d, out)
    | true, some (.nx, .own out :: _) => some (.none, out)
    | _, _ => none
  | false, [] => match decide (xs.length = np), body (xs.map .val ++ List.replicate (nl - np) .un) with
    | true, some (.rt d, _) => some (d, [])
    | true, some (.nx, _) => some (.none, [])
    | _, _ => none
  | false, _ :: _ => none
end Dl

set_option maxRecDepth 100000
set_option maxHeartbeats 2000000
/-! The evaluator over the model's own syntax trees. -/
namespace Dl
open PySem PySem.Spec L2
open PyProof.Rows hiding St

/-- where one stands: the defs that may be called, the scope, the names by slot, the slots that are never stored, the built-in names that are free -/
structure Ct where
  G : GT
  sc : Scope
  N : List Str
  pn : List Nat
  B : List Str
  fr : Bool
  fn : Str → Bool
  tb : List Nat
  rt : Bool
def Ct.blk (c : Ct) (scope : Scope) : Ct := { c with sc := relS scope c.sc, fn := fun x => scope.names.lookup x == some .cell }
def slotOf (N : List Str) (x : Str) : Option Nat := N.findIdx? fun y => decide (y = x)
def visB (sc : Scope) (x : Str) : Bool := match sc.names.lookup x with
  | some .local => true
  | some .cell => true
  | some .free => true
  | _ => false
def locB (sc : Scope) (x : Str) : Bool := match sc.names.lookup x with
  | some .local => true
  | some .cell => true
  | _ => false
def locL (sc : Scope) (x : Str) : Bool := match sc.names.lookup x with
  | some .local => true
  | _ => false
def gloB (sc : Scope) (x : Str) : Bool := match sc.names.lookup x with
  | some .globalImplicit => true
  | _ => false
def oddName (x : Str) : Bool := decide (x = "__debug__") || decide (x = "__classdict__") || decide (x = "__name__")
def nameSlot (c : Ct) : Expr → Option Nat
  | .Name x _ => match visB c.sc x, oddName x with
    | true, false => slotOf c.N x
    | _, _ => none
  | _ => none
/-- a name's slot that may be stored -/
def storeSlot (c : Ct) : Expr → Option Nat
  | .Name x _ => match locB c.sc x && (c.fn x || locL c.sc x), oddName x with
    | true, false => match slotOf c.N x with
      | some i => match c.pn.contains i with
        | false => some i
        | true => none
      | none => none
    | _, _ => none
  | _ => none
/-- a built-in's name that is free here -/
def bltB (c : Ct) (x : Str) : Bool := gloB c.sc x && c.B.contains x && !oddName x && (c.G x).isNone
def noStar : Expr → Bool
  | .Starred .. => false
  | _ => true
/-- o.m(..) goes the short road: o is no call of a name without arguments, the dot stands on the call's line -/
def metB (o : Expr) (ap cp : Pos) : Bool := (ap.endLine == cp.line) && match o with
  | .Call _ _ _ _ => false
  | _ => true
def plainT : Expr → Bool
  | .UnaryOp .Not _ _ => false
  | .BoolOp _ _ _ => false
  | .IfExp _ _ _ _ => false
  | .Compare _ _ _ _ => false
  | _ => true
/-- a name that holds a table -/
def tabSlot (c : Ct) (e : Expr) : Option Nat := match c.tb with
  | [] => none
  | t :: r => match nameSlot c e with
    | some i => match (t :: r).contains i && !c.pn.contains i with
      | true => some i
      | false => none
    | none => none
def inNeg : CmpOp → Option Bool
  | .In => some false
  | .NotIn => some true
  | _ => none
def cmpV (c : Ct) (op : CmpOp) (b : Expr) (fa fb : EV) : TV := match tabSlot c b, inNeg op with
  | some i, some neg => C.inTab neg i fa
  | _, _ => C.cmp (cmpOp op) fa fb
/-- a def that gives a table -/
def tabFn (c : Ct) (f : Str) : Option FnI := match c.G f with
  | some I => match I.tab && !I.own && !I.star with
    | true => some I
    | false => none
  | none => none
/-- three names, the first of them a cell: a tuple is made and taken apart -/
def triB (c : Ct) : Expr → List Expr → Bool
  | .Name x _, es => !decide (c.sc.names.lookup x = some .local) && es.all noStar
  | _, _ => false
/-- a, b = u, v on one line, both names the def's own: the stores are swapped -/
def parB (c : Ct) : Expr → Expr → Expr → Expr → Bool
  | .Name x p, .Name y q, u, v => decide (c.sc.names.lookup x = some .local) && decide (c.sc.names.lookup y = some .local) && decide (x ≠ y) && (q.line == p.line) && noStar u && noStar v && !([u, v].all (foldedForSure 8)) && !([u, v].all (constantsAlone 8))
  | _, _, _, _ => false
/-- a, b = u, v the plain way: a pair is made and taken apart -/
def parN (c : Ct) : Expr → Expr → Expr → Expr → Bool
  | .Name x p, .Name y q, u, v => noStar u && noStar v && (!(decide (c.sc.names.lookup x = some .local) && decide (c.sc.names.lookup y = some .local) && (q.line == p.line)) || [u, v].all (foldedForSure 8))
  | _, _, _, _ => false
def isSlice : Expr → Bool
  | .Slice .. => true
  | _ => false
def isSetD : Expr → Bool
  | .Set .. => true
  | _ => false
def tyNames : List (Str × Ty) := [("list", .list), ("tuple", .tuple), ("dict", .dict), ("str", .str), ("int", .int), ("bool", .bool)]
def tyOf1 (c : Ct) : Expr → Option Ty
  | .Name x _ => match bltB c x with
    | true => tyNames.lookup x
    | false => none
  | _ => none
def mapM1 {α β : Type} (f : α → Option β) : List α → Option (List β)
  | [] => some []
  | x :: r => match f x, mapM1 f r with
    | some y, some ys => some (y :: ys)
    | _, _ => none
def tysOf (c : Ct) : Expr → Option (List Ty)
  | .Tuple es _ _ => match mapM1 (tyOf1 c) es with
    | some ts => match decide (ts.length ≤ line) with
      | true => some ts
      | false => none
    | none => none
  | e => (tyOf1 c e).map fun t => [t]
def fns1 : List (Str × (D → Option D)) := [("len", opLen), ("abs", opAbs), ("int", opInt), ("tuple", opTuple), ("list", opList), ("sum", opSum), ("any", opAny), ("all", opAll), ("min", opMin), ("max", opMax), ("sorted", opSorted)]
def fns2 : List (Str × (D → D → Option D)) := [("min", opMin2), ("max", opMax2)]
def mts1 : List (Str × (D → D → Option D)) := [("count", opCount), ("join", opJoin)]
/-- a list that comes of it is a new one -/
def frE : Nat → Ct → Expr → Bool
  | 0, _, _ => false
  | n + 1, c, e => match e with
    | .List _ _ => true
    | .ListComp _ _ _ _ => true
    | .BinOp _ .Add _ _ => true
    | .BinOp _ .Mult _ _ => true
    | .BoolOp .Or vs _ => vs.all (frE n c)
    | .Call (.Name f _) as [] _ => (bltB c f && (decide (f = "list") || decide (f = "sorted")) && decide (as.length = 1)) || (match c.G f with | some I => I.fr && !I.own && !I.star | none => false)
    | _ => false
def ownSlots (N : List Str) (scope : Scope) : List (Str × Nat) := scope.names.filterMap fun y => match y.2 with
  | .local => (slotOf N y.1).map fun i => (y.1, i)
  | .cell => (slotOf N y.1).map fun i => (y.1, i)
  | _ => none
def argsL : List (Bool × EV) → AV
  | [] => C.nil
  | (false, e) :: r => C.cons e (argsL r)
  | (true, e) :: r => C.star e (argsL r)
def andL : List TV → TV
  | [] => C.fail
  | [t] => t
  | t :: r => C.and t (andL r)
def orL : List TV → TV
  | [] => C.fail
  | [t] => t
  | t :: r => C.or t (orL r)
def andVL : List EV → EV
  | [] => C.fail
  | [t] => t
  | t :: r => C.andV t (andVL r)
def orVL : List EV → EV
  | [] => C.fail
  | [t] => t
  | t :: r => C.orV t (orVL r)
def tgsL : List GV → List D → Rho → Option Rho
  | [] => C.tgNil
  | g :: r => C.tgCons g (tgsL r)
def seqL : List ZV → ZV
  | [] => S.skip
  | [s] => s
  | s :: r => S.seq s (seqL r)
/-- keyword arguments in the parameters' order -/
def permOf (ps : List Str) (ks : List (Option Str)) : Option (List Nat) := mapM1 (fun p => ks.findIdx? fun k => decide (k = some p)) ps
def pickL {α : Type} (js : List Nat) (xs : List α) : List α := js.filterMap fun j => xs[j]?
/-- the keywords are one of these rows -/
def kwIn (kw : List (List Str)) (ks : List (Option Str)) : Bool := kw.any fun r => decide (r.map some = ks)
def inVs : Option (List Nat) → Nat → Bool
  | none, _ => true
  | some vs, i => vs.contains i
def C.callK (I : FnI) (js : List Nat) (r : AV) : EV := fun ρ => match r ρ with
  | some (xs, ρ1) => match I.sem [] (pickL js xs) with
    | some (d, []) => some (d, ρ1)
    | _ => none
  | none => none
/-- def f(*xs) -/
def C.callS (I : FnI) (r : AV) : EV := fun ρ => match r ρ with
  | some (xs, ρ1) => match decide (xs.length ≤ line), I.sem [] [.tuple xs] with
    | true, some (d, []) => some (d, ρ1)
    | _, _ => none
  | none => none
mutual
def evE : Nat → Ct → Expr → EV
  | 0, _, _ => C.fail
  | n + 1, c, e => match e with
    | .Constant k _ _ => C.const k
    | .Name x p => match nameSlot c (.Name x p) with
      | some i => match c.pn.contains i with
        | true => C.varV i
        | false => C.var i
      | none => C.fail
    | .BinOp (.List es _) .Mult b _ => C.repL (evA n c es) (evE n c b)
    | .BinOp a op b _ => C.bin (binOp op) (evE n c a) (evE n c b)
    | .UnaryOp .Not a _ => C.ofT (C.not (C.test (evE n c a)))
    | .UnaryOp .USub a _ => C.un1 opNeg (evE n c a)
    | .BoolOp .And vs _ => andVL (vs.map (evE n c))
    | .BoolOp .Or vs _ => orVL (vs.map (evE n c))
    | .Compare a [op] [b] _ => match behindInMarks op b with
      | false => C.ofT (cmpV c op b (evE n c a) (evE n c b))
      | true => C.fail
    | .Compare a [op, op'] [b, b'] _ => match lastMarks [op, op'] [b, b'] with
      | false => C.ofT (C.chain (cmpOp op) (cmpOp op') (evE n c a) (evE n c b) (evE n c b'))
      | true => C.fail
    | .IfExp t a b _ => C.ifx (evT n c t) (evE n c a) (evE n c b)
    | .Tuple es _ _ => C.tup (evA n c es)
    | .List es _ => C.lst (evA n c es)
    | .Subscript a (.Slice lo hi none _) _ => C.sl (evE n c a) (evO n c lo) (evO n c hi)
    | .Subscript a (.Slice none none (some (.UnaryOp .USub (.Constant (.int 1) _ _) _)) _) _ => C.un1 opRev (evE n c a)
    | .Subscript a i _ => match isSlice i with
      | true => C.fail
      | false => match tabSlot c a with
        | some k => C.subTab k (evE n c i)
        | none => match nameSlot c a with
          | some k => C.subOwn k (evE n c i)
          | none => C.bin item (evE n c a) (evE n c i)
    | .ListComp elt [⟨tg, it, ifs, 0⟩] scope _ =>
      match blkC c.N c.sc scope (ownSlots c.N scope) && ((ownSlots c.N scope).all fun p => !c.pn.contains p.2) && !isSetD it with
      | true => C.lc ((ownSlots c.N scope).map (·.2)) (evI n c tg it) (evG n (c.blk scope) (some ((ownSlots c.N scope).map (·.2))) tg) (evTs n (c.blk scope) ifs) (evE n (c.blk scope) elt)
      | false => C.fail
    | .Call (.Name f _) args kws _ => evC n c f args kws
    | .Call (.Attribute o m ap) [a] [] cp => match metB o ap cp && noStar a with
      | true => match nameSlot c o, decide (m = "pop") with
        | some i, true => C.popOwn i (evE n c a)
        | _, _ => match mts1.lookup m with
          | some f => C.bin f (evE n c o) (evE n c a)
          | none => C.fail
      | false => C.fail
    | _ => C.fail
def evO : Nat → Ct → Option Expr → Rho → Option (Option Int × Rho)
  | 0, _, _ => C.fail
  | n + 1, c, e => match e with
    | none => C.noPart
    | some e => C.part (evE n c e)
def evA : Nat → Ct → List Expr → AV
  | 0, _, _ => C.fail
  | n + 1, c, es => argsL (es.map fun e => match e with
    | .Starred x _ => (true, evE n c x)
    | e => (false, evE n c e))
def evT : Nat → Ct → Expr → TV
  | 0, _, _ => C.fail
  | n + 1, c, e => match e with
    | .UnaryOp .Not a _ => C.not (evT n c a)
    | .BoolOp .And vs _ => andL (vs.map (evT n c))
    | .BoolOp .Or vs _ => orL (vs.map (evT n c))
    | .Compare a [op] [b] _ => match behindInMarks op b with
      | false => cmpV c op b (evE n c a) (evE n c b)
      | true => C.fail
    | .Compare a [op, op'] [b, b'] _ => match lastMarks [op, op'] [b, b'] with
      | false => C.chain (cmpOp op) (cmpOp op') (evE n c a) (evE n c b) (evE n c b')
      | true => C.fail
    | e => match plainT e with
      | true => C.test (evE n c e)
      | false => C.fail
def evTs : Nat → Ct → List Expr → TV
  | 0, _, _ => C.fail
  | n + 1, c, ifs => match ifs with
    | [] => C.yes
    | [t] => evT n c t
    | _ => C.fail
/-- what is walked for a target -/
def evI : Nat → Ct → Expr → Expr → AV
  | 0, _, _, _ => C.fail
  | n + 1, c, tg, e => match e with
    | .Call (.Name f p) [a] [] q => match bltB c f && noStar a, decide (f = "range"), decide (f = "enumerate") with
      | true, true, _ => C.range1 (evE n c a)
      | true, _, true => match tg with
        | .Tuple _ _ _ => C.enum (evE n c a)
        | _ => C.fail
      | _, _, _ => C.iter (evE n c (.Call (.Name f p) [a] [] q))
    | .Call (.Name f p) [a, b] [] q => match bltB c f && noStar a && noStar b, decide (f = "range"), decide (f = "zip") with
      | true, true, _ => C.range2 (evE n c a) (evE n c b)
      | true, _, true => match tg with
        | .Tuple _ _ _ => C.zip2 (evE n c a) (evE n c b)
        | _ => C.fail
      | _, _, _ => C.iter (evE n c (.Call (.Name f p) [a, b] [] q))
    | .Call (.Name f p) [a, b, d] [] q => match bltB c f && noStar a && noStar b && noStar d, decide (f = "zip") with
      | true, true => match tg with
        | .Name _ _ => C.zip3 (evE n c a) (evE n c b) (evE n c d)
        | _ => C.fail
      | _, _ => C.iter (evE n c (.Call (.Name f p) [a, b, d] [] q))
    | e => C.iter (evE n c e)
/-- a target: the names' slots must be among these (a comprehension's own), or, if there are none, may be any -/
def evG : Nat → Ct → Option (List Nat) → Expr → GV
  | 0, _, _, _ => fun _ _ => none
  | n + 1, c, vs, e => match e with
    | .Name x p => match storeSlot c (.Name x p) with
      | some i => match inVs vs i with
        | true => C.tgName i
        | false => fun _ _ => none
      | none => fun _ _ => none
    | .Tuple ts _ _ => match ts.all noStar with
      | true => C.tgTup (tgsL (ts.map (evG n c vs)))
      | false => fun _ _ => none
    | _ => fun _ _ => none
/-- a call of a name -/
def evC : Nat → Ct → Str → List Expr → List Keyword → EV
  | 0, _, _, _, _ => C.fail
  | n + 1, c, f, args, kws => match gloB c.sc f && !oddName f && args.all noStar with
    | false => C.fail
    | true => match c.G f with
      | some I => match I.tab, I.star, I.own, args, kws with
        | false, true, false, _ :: _, [] => C.callS I (evA n c args)
        | false, false, true, a :: r, [] => match nameSlot c a with
          | some i => C.callO I i (evA n c r)
          | none => C.fail
        | false, false, false, _ :: _, [] => C.call I (evA n c args)
        | false, false, false, [], [] => C.call I C.nil
        | false, false, false, [], _ :: _ => match permOf I.ps (kws.map (·.arg)), kwIn I.kw (kws.map (·.arg)) with
          | some js, true => C.callK I js (argsL (kws.map fun q => (false, evE n c q.value)))
          | _, _ => C.fail
        | _, _, _, _, _ => C.fail
      | none => match bltB c f, args, kws with
        | true, [a], [] => match tabSlot c a, decide (f = "sorted") with
         | some i, true => C.sortTab i
         | _, _ => match decide (f = "sorted"), a with
          | true, .Call (.Name g _) [b] [] _ => match bltB c g && decide (g = "set") && noStar b with
            | true => C.un1 opSortedSet (evE n c b)
            | false => C.un1 opSorted (evE n c a)
          | _, _ => match decide (f = "len"), nameSlot c a with
            | true, some i => C.lenOwn i
            | _, _ => match fns1.lookup f with
              | some o => C.un1 o (evE n c a)
              | none => C.fail
        | true, [a, b], [] => match decide (f = "isinstance"), tysOf c b with
          | true, some ts => C.un1 (fun d => some (.bool (isTys ts d))) (evE n c a)
          | _, _ => match fns2.lookup f with
            | some o => C.bin o (evE n c a) (evE n c b)
            | none => C.fail
        | _, _, _ => C.fail
end
def isTupD : Expr → Bool
  | .Tuple .. => true
  | _ => false
mutual
def evS : Nat → Ct → Stmt → ZV
  | 0, _, _ => C.fail
  | n + 1, c, st => match st with
    | .Pass _ => S.skip
    | .Break _ => S.brk
    | .Continue _ => S.cont
    | .Return none _ => match c.fr with
      | false => S.retN
      | true => C.fail
    | .Return (some e) _ => match tabSlot c e, c.rt with
      | some i, true => S.retTab i
      | _, _ => match !c.fr || frE n c e with
        | true => S.ret (evE n c e)
        | false => C.fail
    | .If t a b _ => S.ite (evT n c t) (evZ n c a) (evZ n c b)
    | .For tg it body [] _ => match isSetD it with
      | false => S.for_ (evI n c tg it) (evG n c none tg) (evZ n c body)
      | true => C.fail
    | .While t body [] _ => S.while_ (evT n c t) (evZ n c body)
    | .Assign [.Name x p] (.Call (.Name f q) (a :: r) [] q2) _ => match tabFn c f, storeSlot c (.Name x p) with
      | some I, some i => match gloB c.sc f && !oddName f && (a :: r).all noStar with
        | true => S.asgTab i I (evA n c (a :: r))
        | false => C.fail
      | none, some i => S.asg i (frE n c (.Call (.Name f q) (a :: r) [] q2)) (evE n c (.Call (.Name f q) (a :: r) [] q2))
      | _, _ => C.fail
    | .Assign [.Tuple [a, b, d] k p] (.Tuple [.Dict [] [] p2, u, v] k' p') _ => match storeSlot c a, storeSlot c b, storeSlot c d, triB c a [u, v] with
      | some i, some j, some l, true => S.newTab i j l (frE n c u) (frE n c v) (evE n c u) (evE n c v)
      | _, _, _, _ => C.fail
    | .Assign [.Name x p] v _ => match storeSlot c (.Name x p) with
      | some i => S.asg i (frE n c v) (evE n c v)
      | none => C.fail
    | .Assign [.Tuple [a, b] k p] (.Tuple [u, v] k' p') _ => match storeSlot c a, storeSlot c b, parB c a b u v || parN c a b u v with
      | some i, some j, true => S.par i j (frE n c u) (frE n c v) (evE n c u) (evE n c v)
      | _, _, _ => C.fail
    | .Assign [.Tuple ts k p] v _ => match isTupD v with
      | false => S.asgG (evG n c none (.Tuple ts k p)) (evE n c v)
      | true => C.fail
    | .Assign [.Subscript o i _] v _ => match tabSlot c o, nameSlot c o, isSlice i with
      | some k, _, false => S.setTab k (evE n c i) (evE n c v)
      | none, some k, false => S.setItem k (evE n c i) (evE n c v)
      | _, _, _ => C.fail
    | .AugAssign (.Name x p) .Add v _ => match storeSlot c (.Name x p) with
      | some i => S.aug i (fun d e => match d, e with | .int k, .int j => some (.int (k + j)) | _, _ => none) (evE n c v)
      | none => C.fail
    | .Expr (.Call (.Attribute o m ap) [a] [] cp) _ => match nameSlot c o, decide (m = "append") && noStar a && metB o ap cp with
      | some i, true => S.append i (evE n c a)
      | _, _ => C.fail
    | .Expr (.Call (.Name f p) args kws q) _ => S.drop (evE n c (.Call (.Name f p) args kws q))
    | _ => C.fail
def evZ : Nat → Ct → List Stmt → ZV
  | 0, _, _ => C.fail
  | n + 1, c, sts => seqL (sts.map (evS n c))
end
/-- a def of the text -/
structure Df where
  name : Str
  ps : List Str
  own : Bool
  star : Bool
  fr : Bool
  kw : List (List Str)
  tab : Bool
  tabs : List Nat
  N : List Str
  sc : Scope
  body : List Stmt
def semOf (G : GT) (B : List Str) (d : Df) (os xs : List D) : Option (D × List D) := runDef d.own d.ps.length d.N.length (evZ 60 ⟨G, d.sc, d.N, match d.own with | true => [0] | false => [], B, d.fr, fun _ => true, d.tabs, d.tab⟩ d.body) os xs
/-- whether these statements raise the error: by a call at once, or behind a test -/
def rzZ (n : Nat) (c : Ct) : List Stmt → Rho → Bool
  | [], _ => false
  | .Expr (.Call (.Name f _) (a :: r) [] _) _ :: _, ρ => match gloB c.sc f && !oddName f && (a :: r).all noStar, c.G f with
    | true, some I => match I.own, evA n c (a :: r) ρ with
      | false, some (xs, _) => match I.star with
        | true => decide (xs.length ≤ line) && I.rz [.tuple xs]
        | false => decide (xs.length = I.ps.length) && I.rz xs
      | _, _ => false
    | _, _ => false
  | .If t [.Raise (some (.Call (.Name x _) [] [] _)) none _] [] _ :: _, ρ => match evT n c t ρ, decide (x = "OtherKind") && gloB c.sc x with
    | some (true, _), true => true
    | _, _ => false
  | s :: rest, ρ => match evS n c s ρ with
    | some (.nx, ρ1) => rzZ n c rest ρ1
    | _ => false
def rzOf (G : GT) (B : List Str) (d : Df) (xs : List D) : Bool := match d.own with
  | true => false
  | false => decide (xs.length = d.ps.length) && rzZ 60 ⟨G, d.sc, d.N, [], B, d.fr, fun _ => true, d.tabs, d.tab⟩ d.body (xs.map .val ++ List.replicate (d.N.length - d.ps.length) .un)
def infoOf (G : GT) (B : List Str) (d : Df) : FnI := ⟨d.ps, d.own, d.star, d.fr, d.kw, d.tab, semOf G B d, rzOf G B d⟩
def findDf : List Df → Str → Option Df
  | [], _ => none
  | d :: r, x => match decide (d.name = x) with
    | true => some d
    | false => findDf r x
/-- a def that is shown by hand: what it gives, where the others give so much -/
abbrev Ov := Str → Option (GT → FnI)
/-- what the defs give, so many calls deep -/
def GsO (ov : Ov) (ds : List Df) (B : List Str) : Nat → GT
  | 0 => fun x => (findDf ds x).map fun d => ⟨d.ps, d.own, d.star, d.fr, d.kw, d.tab, fun _ _ => none, fun _ => false⟩
  | k + 1 => fun x => match ov x with
    | some F => some (F (GsO ov ds B k))
    | none => (findDf ds x).map (infoOf (GsO ov ds B k) B)
end Dl

set_option maxRecDepth 100000
set_option maxHeartbeats 2000000
namespace Dl
open PySem PySem.Spec L2
open PyProof.Rows hiding St

abbrev SSt := L2.St
/-! ### parts of a heap -/
open Classical in
noncomputable def hid (W : Addr → Prop) (H : Hp) : Hp := fun a => if W a then none else H a
def Sub (H H' : Hp) : Prop := ∀ p o, H p = some o → H' p = some o
theorem hid_some {W : Addr → Prop} {H : Hp} {p : Addr} {o : HO} : hid W H p = some o ↔ ¬ W p ∧ H p = some o := by
  unfold hid
  by_cases h : W p <;> simp [h]
theorem hid_no {W : Addr → Prop} {H : Hp} {p : Addr} (h : ¬ W p) : hid W H p = H p := by unfold hid; rw [if_neg h]
theorem Sub.refl {H : Hp} : Sub H H := fun _ _ e => e
theorem Sub.trans {H H1 H2 : Hp} (a : Sub H H1) (b : Sub H1 H2) : Sub H H2 := fun p o e => b p o (a p o e)
theorem Sub.upd {H : Hp} {p : Addr} {o : HO} (h : H p = none) : Sub H (upd H p o) := fun q u e => by
  rw [upd_ne (ne_of_none e h)]; exact e
theorem rd_sub {H H' : Hp} {a : Addr} {u : HO} (s : Sub H H') (h : Rd H a u) : Rd H' a u := by
  rcases h with h | ⟨o, h⟩
  · exact .inl (s a _ h)
  · exact .inr ⟨o, s a _ h⟩
theorem sqL_sub {K : PySem.W.Frag} {H H' : Hp} {a : Addr} {xs : List V} (s : Sub H H') (h : SqL K H a xs) : SqL K H' a xs := by
  rcases h with h | h
  · exact .inl (rd_sub s h)
  · exact .inr h
theorem sqT_sub {K : PySem.W.Frag} {H H' : Hp} {a : Addr} {xs : List V} (s : Sub H H') (h : SqT K H a xs) : SqT K H' a xs := by
  rcases h with h | h
  · exact .inl (rd_sub s h)
  · exact .inr h
mutual
theorem dp_sub {K : PySem.W.Frag} {H H' : Hp} (s : Sub H H') : ∀ (d : PyData) (v : V), Dp K H v d → Dp K H' v d
  | .none, _, h => by cases h; exact .non
  | .bool b, _, h => by cases h; exact .bl b
  | .int i, _, h => by cases h; exact .int i
  | .str x, _, h => by cases h; exact .str x
  | .list ds, _, h => by
    cases h with
    | lst hs ha => exact .lst (sqL_sub s hs) (dpAll_sub s ds _ ha)
  | .tuple ds, _, h => by
    cases h with
    | tup hs ha => exact .tup (sqT_sub s hs) (dpAll_sub s ds _ ha)
  | .dict _, _, h => by cases h
theorem dpAll_sub {K : PySem.W.Frag} {H H' : Hp} (s : Sub H H') : ∀ (ds : List PyData) (vs : List V), DpAll K H vs ds → DpAll K H' vs ds
  | [], _, h => by cases h; exact .nil
  | d :: ds, _, h => by
    cases h with
    | cons h1 h2 => exact .cons (dp_sub s d _ h1) (dpAll_sub s ds _ h2)
end
theorem DpAll.length {K : PySem.W.Frag} {H : Hp} : ∀ {vs : List V} {ds : List D}, DpAll K H vs ds → vs.length = ds.length
  | _, [], h => by cases h; rfl
  | _, d :: ds, h => by
    cases h with
    | cons h1 h2 => simp [DpAll.length h2]
theorem DpAll.get {K : PySem.W.Frag} {H : Hp} : ∀ {ds : List D} {vs : List V} {i : Nat} {d : D}, DpAll K H vs ds → ds[i]? = some d → ∃ v, vs[i]? = some v ∧ Dp K H v d
  | [], _, _, _, h, e => by simp at e
  | d :: ds, _, 0, d', h, e => by
    cases h with
    | cons h1 h2 =>
      simp at e; subst e
      exact ⟨_, rfl, h1⟩
  | d :: ds, _, i + 1, d', h, e => by
    cases h with
    | cons h1 h2 =>
      obtain ⟨v, e1, r⟩ := DpAll.get (i := i) h2 (by simpa using e)
      exact ⟨v, by simpa using e1, r⟩
theorem DpAll.append {K : PySem.W.Frag} {H : Hp} : ∀ {ds es : List D} {vs us : List V}, DpAll K H vs ds → DpAll K H us es → DpAll K H (vs ++ us) (ds ++ es)
  | [], _, _, _, h, g => by cases h; exact g
  | d :: ds, _, _, _, h, g => by
    cases h with
    | cons h1 h2 => exact .cons h1 (DpAll.append h2 g)
theorem DpAll.take {K : PySem.W.Frag} {H : Hp} : ∀ (n : Nat) {ds : List D} {vs : List V}, DpAll K H vs ds → DpAll K H (vs.take n) (ds.take n)
  | 0, _, _, _ => by simp; exact .nil
  | n + 1, [], _, h => by cases h; simp; exact .nil
  | n + 1, d :: ds, _, h => by
    cases h with
    | cons h1 h2 => exact .cons h1 (DpAll.take n h2)
theorem DpAll.drop {K : PySem.W.Frag} {H : Hp} : ∀ (n : Nat) {ds : List D} {vs : List V}, DpAll K H vs ds → DpAll K H (vs.drop n) (ds.drop n)
  | 0, _, _, h => h
  | n + 1, [], _, h => by cases h; simp; exact .nil
  | n + 1, d :: ds, _, h => by
    cases h with
    | cons h1 h2 => exact DpAll.drop n h2
theorem DpAll.set {K : PySem.W.Frag} {H : Hp} {v : V} {d : D} (r : Dp K H v d) : ∀ {ds : List D} {vs : List V} (i : Nat), DpAll K H vs ds → DpAll K H (vs.set i v) (ds.set i d)
  | [], _, _, h => by cases h; exact .nil
  | d :: ds, _, 0, h => by
    cases h with
    | cons h1 h2 => exact .cons r h2
  | d :: ds, _, i + 1, h => by
    cases h with
    | cons h1 h2 => exact .cons h1 (DpAll.set r i h2)
theorem DpAll.eraseIdx {K : PySem.W.Frag} {H : Hp} : ∀ {ds : List D} {vs : List V} (i : Nat), DpAll K H vs ds → DpAll K H (vs.eraseIdx i) (ds.eraseIdx i)
  | [], _, _, h => by cases h; exact .nil
  | d :: ds, _, 0, h => by
    cases h with
    | cons h1 h2 => exact h2
  | d :: ds, _, i + 1, h => by
    cases h with
    | cons h1 h2 => exact .cons h1 (DpAll.eraseIdx i h2)
theorem DpAll.reverse {K : PySem.W.Frag} {H : Hp} : ∀ {ds : List D} {vs : List V}, DpAll K H vs ds → DpAll K H vs.reverse ds.reverse
  | [], _, h => by cases h; exact .nil
  | d :: ds, _, h => by
    cases h with
    | cons h1 h2 =>
      rw [List.reverse_cons, List.reverse_cons]
      exact DpAll.append (DpAll.reverse h2) (.cons h1 .nil)

theorem hid_sub {H H1 : Hp} {W : Addr → Prop} (s : Sub H H1) : Sub (hid W H) (hid W H1) := fun p o h => by
  obtain ⟨n, e⟩ := hid_some.mp h
  exact hid_some.mpr ⟨n, s p o e⟩
theorem hid_mono {H : Hp} {W W' : Addr → Prop} (h : ∀ p, W' p → W p) : Sub (hid W H) (hid W' H) := fun p o e => by
  obtain ⟨n, e⟩ := hid_some.mp e
  exact hid_some.mpr ⟨fun w => n (h p w), e⟩
theorem hid_le {H : Hp} {W : Addr → Prop} : Sub (hid W H) H := fun p o e => (hid_some.mp e).2
end Dl

set_option maxRecDepth 100000
set_option maxHeartbeats 2000000
/-! Data as keys of a dict (first step towards dicts in the evaluator; meant for k86): no list in them, nested to depth 8. -/
namespace Dl
open PySem PySem.Spec L2
open PyProof.Rows hiding St
section
variable {X : Cx} {pins : List (Addr × Obj)} {σ : SSt} {H : Hp} {s : Shared}
theorem vals_cons {v : V} {vs : List V} {us : List Value} (h : Vals (v :: vs) us) : ∃ u r, us = u :: r ∧ RelV v u ∧ Vals vs r := by
  cases h with
  | cons h1 h2 => exact ⟨_, _, rfl, h1, h2⟩
mutual
/-- data that is a key is that key in the heap -/
theorem nested_of (I : Inv X pins σ H s) : ∀ (d : D) (v : V) (u : Value) (k : NestedKey), Dp X.K H v d → nkD d = some k → RelV v u → NestedIs s.heap k u
  | .none, _, u, k, h, e, r => by
    cases h
    simp only [nkD, Option.some.injEq] at e
    subst e
    cases r
    exact .none
  | .bool b, _, u, k, h, e, r => by
    cases h
    simp only [nkD, Option.some.injEq] at e
    subst e
    cases r
    exact .bool rfl
  | .int i, _, u, k, h, e, r => by
    cases h
    simp only [nkD, Option.some.injEq] at e
    subst e
    obtain ⟨t, rfl⟩ := r
    exact .int i t
  | .str x, _, u, k, h, e, r => by
    cases h
    simp only [nkD, Option.some.injEq] at e
    subst e
    obtain ⟨t, rfl⟩ := r
    exact .text x t
  | .tuple ds, _, u, k, h, e, r => by
    cases h with
    | @tup a xs _ hs ha =>
      cases r
      simp only [nkD, Option.map_eq_some_iff] at e
      obtain ⟨ks, e, rfl⟩ := e
      obtain ⟨its, hv, ⟨o, h1, h2, n, h3⟩, _⟩ := I.tuple hs
      exact .tup h1 h2 h3 (by simpa using nested_all I ds xs its ks ha e hv)
  | .list _, _, _, _, _, e, _ => by simp [nkD] at e
  | .dict _, _, _, _, _, e, _ => by simp [nkD] at e
theorem nested_all (I : Inv X pins σ H s) : ∀ (ds : List D) (vs : List V) (us : List Value) (ks : List NestedKey), DpAll X.K H vs ds → nkAll ds = some ks → Vals vs us → NestedAll s.heap ks us
  | [], _, us, ks, h, e, r => by
    cases h
    simp only [nkAll, Option.some.injEq] at e
    subst e
    cases r
    exact .nil
  | d :: ds, _, us, ks, h, e, r => by
    cases h with
    | @cons v vs _ _ h1 h2 =>
      obtain ⟨u, us', rfl, r1, r2⟩ := vals_cons r
      rw [nkAll] at e
      cases hk : nkD d with
      | none => rw [hk] at e; simp at e
      | some k =>
        rw [hk] at e
        simp only [Option.map_eq_some_iff] at e
        obtain ⟨ks', e, rfl⟩ := e
        exact .cons (nested_of I d v u k h1 hk r1) (nested_all I ds vs us' ks' h2 e r2)
end
end
end Dl

set_option maxRecDepth 100000
set_option maxHeartbeats 2000000
/-! A dict whose keys are nested tuples, as an object of the abstract heap (HO.ext), with its rules: new, d[k], k in d, d[k] = v. -/
namespace Dl
open PySem PySem.Spec L2
open PyProof.Rows hiding St
abbrev TabK := List (NestedKey × Addr × V)
abbrev tabRel : TabK → List (NestedKey × Addr × Value) → Prop := Paired fun p q => p.1 = q.1 ∧ p.2.1 = q.2.1 ∧ RelV p.2.2 q.2.2
def tabAt (P : Program) (w : World) (a : Addr) (kvs : TabK) (h : Heap) : Prop :=
  kvs.length ≤ sizeLine ∧ (a == sysModules) = false ∧ ∃ xs, tabRel kvs xs ∧
    ∃ o es ep, h.get? a = some o ∧ o.ExactDict ∧ o.data = .dict es ep ∧ es.toList = xs.map (entryOfKey (nestedKind P w)) ∧ (xs.map (·.1)).Nodup
def TabO (P : Program) (w : World) (a : Addr) (kvs : TabK) : HO := .ext (tabAt P w a kvs)
theorem tabO_ok {P : Program} {w : World} {a : Addr} {kvs : TabK} {h : Heap} {H : Hp} (x : tabAt P w a kvs h) : ObjOk P w H h a (TabO P w a kvs) :=
  ⟨x, let ⟨_, _, _, _, o, _, _, e, _⟩ := x; ⟨o, e⟩, fun h1 h2 y st => by
    obtain ⟨z, q, xs, r, o, es, ep, e, c⟩ := y
    exact ⟨z, q, xs, r, o, es, ep, st o e, c⟩⟩
/-- the keys stand in the heap -/
def keysIn (K : PySem.W.Frag) (H : Hp) (kvs : TabK) : Prop := ∀ p ∈ kvs, ∃ d, nkD d = some p.1 ∧ p.1.depth ≤ 8 ∧ Dp K H (.ref p.2.1) d
def valN (kvs : TabK) (k : NestedKey) : Option V := (kvs.find? fun p => decide (p.1 = k)).map (·.2.2)
def putN (kvs : TabK) (k : NestedKey) (b : Addr) (v : V) : TabK :=
  if (valN kvs k).isSome then kvs.map (fun p => if p.1 = k then (p.1, p.2.1, v) else p) else kvs ++ [(k, b, v)]
theorem len_putN (kvs : TabK) (k : NestedKey) (b : Addr) (v : V) : (putN kvs k b v).length ≤ kvs.length + 1 := by
  unfold putN
  split <;> simp
theorem tab_val {kvs : TabK} {xs : List (NestedKey × Addr × Value)} (r : tabRel kvs xs) (k : NestedKey) : RelO (valN kvs k) ((atKey xs k).map (·.2)) := by
  induction r with
  | nil => exact True.intro
  | @cons p q ps qs h t ih =>
    obtain ⟨h1, _, h2⟩ := h
    by_cases e : p.1 = k
    · have e' : q.1 = k := h1.symm.trans e
      have b : atKey (q :: qs) k = some q.2 := by simp [atKey, List.find?_cons, e']
      have c : valN (p :: ps) k = some p.2.2 := by simp [valN, List.find?_cons, e]
      rw [c, b]; exact h2
    · have e' : ¬ q.1 = k := fun z => e (h1.trans z)
      have b : atKey (q :: qs) k = atKey qs k := by simp [atKey, List.find?_cons, e']
      have c : valN (p :: ps) k = valN ps k := by simp [valN, List.find?_cons, e]
      rw [c, b]; exact ih
theorem tab_repl {kvs : TabK} {xs : List (NestedKey × Addr × Value)} (r : tabRel kvs xs) (k : NestedKey) {y : V} {u : Value} (ry : RelV y u) :
    tabRel (kvs.map fun p => if p.1 = k then (p.1, p.2.1, y) else p) (xs.map (putAt k u)) := by
  induction r with
  | nil => exact .nil
  | @cons p q ps qs h t ih =>
    rw [List.map_cons, List.map_cons]
    refine .cons ?_ ih
    obtain ⟨h1, h2, h3⟩ := h
    unfold putAt
    by_cases e : p.1 = k
    · rw [if_pos e, if_pos (h1.symm.trans e)]; exact ⟨h1, h2, ry⟩
    · rw [if_neg e, if_neg (fun z => e (h1.trans z))]; exact ⟨h1, h2, h3⟩
theorem tab_put {kvs : TabK} {xs : List (NestedKey × Addr × Value)} (r : tabRel kvs xs) (k : NestedKey) (b : Addr) {y : V} {u : Value} (ry : RelV y u) :
    tabRel (putN kvs k b y) (storedH xs k b u) := by
  have e : (valN kvs k).isSome = (atKey xs k).isSome := by rw [(tab_val r k).isSome_eq, Option.isSome_map]
  unfold putN storedH
  rw [e]
  by_cases q : (atKey xs k).isSome = true
  · rw [if_pos q, if_pos q]; exact tab_repl r k ry
  · rw [if_neg q, if_neg q]; exact Paired.snoc r ⟨rfl, rfl, ry⟩
section
variable {X : Cx} {pins : List (Addr × Obj)} {σ : SSt} {H : Hp} {s : Shared} {a b : Addr} {kvs : TabK} {k : NestedKey} {A : Around} {E : Value → Shared → Prop}
theorem key_at (I : Inv X pins σ H s) {d : D} (hd : nkD d = some k) (h8 : k.depth ≤ 8) (h : Dp X.K H (.ref b) d) : (nestedKind X.prog X.w).is s.heap k b :=
  ⟨nested_of I d _ _ k h hd rfl, h8⟩
theorem tab_rd (I : Inv X pins σ H s) (e : H a = some (TabO X.prog X.w a kvs)) (hk : keysIn X.K H kvs) :
    kvs.length ≤ sizeLine ∧ (a == sysModules) = false ∧ ∃ xs, tabRel kvs xs ∧ s.heap.DictOfH (nestedKind X.prog X.w) a xs := by
  obtain ⟨⟨z, q, xs, r, o, es, ep, h1, h2, h3, h4, h5⟩, _⟩ := I.hok a _ e
  refine ⟨z, q, xs, r, o, es, ep, h1, h2, h3, h4, fun x hx => ?_, h5⟩
  have all : ∀ {l : TabK} {m : List (NestedKey × Addr × Value)}, tabRel l m → (∀ p ∈ l, (nestedKind X.prog X.w).is s.heap p.1 p.2.1) → ∀ x ∈ m, (nestedKind X.prog X.w).is s.heap x.1 x.2.1 := by
    intro l m q
    induction q with
    | nil => intro _ x hx; exact nomatch hx
    | @cons p q ps qs hq t ih =>
      intro hl x hx
      rcases List.mem_cons.mp hx with e | hx
      · subst e
        have := hl p (List.mem_cons_self ..)
        rw [hq.1, hq.2.1] at this
        exact this
      · exact ih (fun p hp => hl p (List.mem_cons_of_mem _ hp)) x hx
  refine all r (fun p hp => ?_) x hx
  obtain ⟨d, hd, h8, hh⟩ := hk p hp
  exact key_at I hd h8 hh
theorem nk_room (hu : A.units + 9 < cLine) : (nestedKind X.prog X.w).room A.in1 := by
  show A.units + 1 + 8 < cLine
  omega
/-- d[k], there -/
theorem n_getItem {v : V} {Q : Value → Shared → Prop} (hu : A.units + 9 < cLine) (I : Inv X pins σ H s) (e : H a = some (TabO X.prog X.w a kvs)) (hk : keysIn X.K H kvs)
    {d : D} (hd : nkD d = some k) (h8 : k.depth ≤ 8) (hb : Dp X.K H (.ref b) d) (l : valN kvs k = some v) (h : ∀ w' s', Inv X pins σ H s' → RelV v w' → Q w' s') :
    wpAny (model X.prog X.w) A (getItem (.ref a) (.ref b)) Q E s := by
  obtain ⟨_, _, xs, rel, dd⟩ := tab_rd I e hk
  obtain ⟨w', hw, rw'⟩ := RelO.some_of (v := v) (o := (atKey xs k).map (·.2)) (by rw [← l]; exact tab_val rel k)
  obtain ⟨p, hp, hp2⟩ := Option.map_eq_some_iff.mp hw
  refine wpAny_getItem_heap (nk_room hu) (key_at I hd h8 hb) dd hp ?_
  rw [hp2]
  exact h w' _ (I.tok _) rw'
/-- k in d -/
theorem n_in {Q : Value → Shared → Prop} (hu : A.units + 9 < cLine) (I : Inv X pins σ H s) (e : H a = some (TabO X.prog X.w a kvs)) (hk : keysIn X.K H kvs)
    {d : D} (hd : nkD d = some k) (h8 : k.depth ≤ 8) (hb : Dp X.K H (.ref b) d) (h : ∀ s', Inv X pins σ H s' → Q (.bool (valN kvs k).isSome) s') :
    wpAny (model X.prog X.w) A (compareOp .In (.ref b) (.ref a)) Q E s := by
  obtain ⟨_, hm, xs, rel, dd⟩ := tab_rd I e hk
  refine wpAny_in_heap (nk_room hu) (key_at I hd h8 hb) hm dd ?_
  have q := (tab_val rel k).isSome_eq
  rw [Option.isSome_map] at q
  rw [← q]
  exact h _ (I.tok _)
theorem n_notIn {Q : Value → Shared → Prop} (hu : A.units + 9 < cLine) (I : Inv X pins σ H s) (e : H a = some (TabO X.prog X.w a kvs)) (hk : keysIn X.K H kvs)
    {d : D} (hd : nkD d = some k) (h8 : k.depth ≤ 8) (hb : Dp X.K H (.ref b) d) (h : ∀ s', Inv X pins σ H s' → Q (.bool (!(valN kvs k).isSome)) s') :
    wpAny (model X.prog X.w) A (compareOp .NotIn (.ref b) (.ref a)) Q E s := by
  obtain ⟨_, hm, xs, rel, dd⟩ := tab_rd I e hk
  refine wpAny_notIn_heap (nk_room hu) (key_at I hd h8 hb) hm dd ?_
  have q := (tab_val rel k).isSome_eq
  rw [Option.isSome_map] at q
  rw [← q]
  exact h _ (I.tok _)
/-- d[k] = v -/
theorem n_setItem {v : V} {r : Value} {Q : Unit → Shared → Prop} (hu : A.units + 9 < cLine) (I : Inv X pins σ H s) (e : H a = some (TabO X.prog X.w a kvs)) (hk : keysIn X.K H kvs)
    {d : D} (hd : nkD d = some k) (h8 : k.depth ≤ 8) (hb : Dp X.K H (.ref b) d) (l : kvs.length < sizeLine) (rv : RelV v r)
    (h : ∀ s', Inv X pins σ (upd H a (TabO X.prog X.w a (putN kvs k b v))) s' → Q () s') :
    wpAny (model X.prog X.w) A (setItem (.ref a) (.ref b) r) Q E s := by
  obtain ⟨z, hm, xs, rel, dd⟩ := tab_rd I e hk
  have hz : xs.length ≤ sizeLine := by rw [← Paired.length rel]; exact z
  have hl : (putN kvs k b v).length ≤ sizeLine := by have := len_putN kvs k b v; omega
  refine wpAny_setItem_heap (hsz := hz) (nk_room hu) (key_at I hd h8 hb) dd fun h' dd' hs => h _ ?_
  obtain ⟨q, es, ep, hq, h2, h3, h4, _, h5⟩ := dd'
  exact d_write I (by rw [e]; exact True.intro) hs ⟨q, hq⟩ (tabO_ok ⟨hl, hm, _, tab_put rel k b rv, q, es, ep, hq, h2, h3, h4, h5⟩)
/-- {} -/
theorem tab_empty {P : Program} {w : World} (h : Heap) (hb : sysModules < h.objs.size) : tabAt P w h.objs.size [] (h.push { cls := .type "dict", data := .dict #[] }) :=
  ⟨Nat.zero_le _, beq_eq_false_iff_ne.mpr (Ne.symm (Nat.ne_of_lt hb)), [], .nil, _, #[], 0, Heap.get?_push_size _ rfl, ⟨rfl, rfl, rfl⟩, rfl, rfl, List.nodup_nil⟩
end
def tTabNew (X : Cx) : TE := fun _ H Q => ∀ p, H p = none → Q (.ref p) (upd H p (TabO X.prog X.w p []))
theorem pe_tabNew {X : Cx} {pos : Pos} : PE X (.Dict [] [] pos) (tTabNew X) := ⟨fun pins s σ H Q I h =>
  wpAny_Dict_empty ⟨.ref s.heap.objs.size, _, I.laid (a := s.heap.objs.size) (o := TabO X.prog X.w s.heap.objs.size []) (t' := s.toks) (fun _ _ q => Heap.get?_push_of_some _ q) (Nat.le_refl _) (tabO_ok (tab_empty s.heap I.big)), rfl, h _ (I.hok.fresh (Nat.le_refl _))⟩⟩
end Dl

set_option maxRecDepth 100000
set_option maxHeartbeats 2000000
/-! The same dict, said of plain data: pairs of data in the order of insertion. -/
namespace Dl
open PySem PySem.Spec L2
open PyProof.Rows hiding St
section
variable {K : PySem.W.Frag} {H : Hp} {a : Addr} {φ ψ : Heap → Prop}
theorem rd_upd_ext (e : H a = some (.ext φ)) {b : Addr} {u : HO} (hu : ∀ χ, u ≠ .ext χ) (h : Rd H b u) : Rd (upd H a (.ext ψ)) b u := by
  rcases h with h | ⟨o, h⟩
  · have ne : b ≠ a := fun z => by subst z; rw [e] at h; exact hu _ (Option.some.inj h).symm
    exact .inl (by rw [upd_ne ne]; exact h)
  · have ne : b ≠ a := fun z => by subst z; rw [e] at h; cases h
    exact .inr ⟨o, by rw [upd_ne ne]; exact h⟩
theorem sqL_upd_ext (e : H a = some (.ext φ)) {b : Addr} {xs : List V} (h : SqL K H b xs) : SqL K (upd H a (.ext ψ)) b xs := by
  rcases h with h | h
  · exact .inl (rd_upd_ext e (fun _ z => nomatch z) h)
  · exact .inr h
theorem sqT_upd_ext (e : H a = some (.ext φ)) {b : Addr} {xs : List V} (h : SqT K H b xs) : SqT K (upd H a (.ext ψ)) b xs := by
  rcases h with h | h
  · exact .inl (rd_upd_ext e (fun _ z => nomatch z) h)
  · exact .inr h
mutual
theorem dp_upd_ext (e : H a = some (.ext φ)) : ∀ (d : D) (v : V), Dp K H v d → Dp K (upd H a (.ext ψ)) v d
  | .none, _, h => by cases h; exact .non
  | .bool b, _, h => by cases h; exact .bl b
  | .int i, _, h => by cases h; exact .int i
  | .str x, _, h => by cases h; exact .str x
  | .list ds, _, h => by
    cases h with
    | lst hs ha => exact .lst (sqL_upd_ext e hs) (dpAll_upd_ext e ds _ ha)
  | .tuple ds, _, h => by
    cases h with
    | tup hs ha => exact .tup (sqT_upd_ext e hs) (dpAll_upd_ext e ds _ ha)
  | .dict _, _, h => by cases h
theorem dpAll_upd_ext (e : H a = some (.ext φ)) : ∀ (ds : List D) (vs : List V), DpAll K H vs ds → DpAll K (upd H a (.ext ψ)) vs ds
  | [], _, h => by cases h; exact .nil
  | d :: ds, _, h => by
    cases h with
    | cons h1 h2 => exact .cons (dp_upd_ext e d _ h1) (dpAll_upd_ext e ds _ h2)
end
end
abbrev tabOf (K : PySem.W.Frag) (H : Hp) : TabD → TabK → Prop := Paired fun p q => nkD p.1 = some q.1 ∧ q.1.depth ≤ 8 ∧ Dp K H (.ref q.2.1) p.1 ∧ Dp K H q.2.2 p.2
/-- at a stands the dict with these keys and values -/
def TabIs (X : Cx) (H : Hp) (a : Addr) (tab : TabD) : Prop := ∃ kvs, H a = some (TabO X.prog X.w a kvs) ∧ tabOf X.K H tab kvs
section
variable {K : PySem.W.Frag} {H : Hp}
theorem tabOf.keys {tab : TabD} {kvs : TabK} (r : tabOf K H tab kvs) : keysIn K H kvs := by
  induction r with
  | nil => exact fun p hp => nomatch hp
  | @cons p q ps qs h t ih =>
    intro x hx
    rcases List.mem_cons.mp hx with e | hx
    · subst e
      exact ⟨p.1, h.1, h.2.1, h.2.2.1⟩
    · exact ih x hx
theorem tabOf.get {tab : TabD} {kvs : TabK} (r : tabOf K H tab kvs) (k : NestedKey) : (valN kvs k).isSome = (tabGet tab k).isSome ∧ ∀ d, tabGet tab k = some d → ∃ v, valN kvs k = some v ∧ Dp K H v d := by
  induction r with
  | nil => exact ⟨rfl, fun d e => by simp [tabGet] at e⟩
  | @cons p q ps qs h t ih =>
    by_cases e : q.1 = k
    · have b : tabGet (p :: ps) k = some p.2 := by simp [tabGet, List.find?_cons, h.1, e]
      have c : valN (q :: qs) k = some q.2.2 := by simp [valN, List.find?_cons, e]
      rw [b, c]
      exact ⟨rfl, fun d z => by cases z; exact ⟨_, rfl, h.2.2.2⟩⟩
    · have b : tabGet (p :: ps) k = tabGet ps k := by simp [tabGet, List.find?_cons, h.1, e]
      have c : valN (q :: qs) k = valN qs k := by simp [valN, List.find?_cons, e]
      rw [b, c]
      exact ih
theorem tabOf.repl {tab : TabD} {kvs : TabK} (r : tabOf K H tab kvs) (k : NestedKey) {y : D} {v : V} (rv : Dp K H v y) :
    tabOf K H (tab.map fun p => if nkD p.1 = some k then (p.1, y) else p) (kvs.map fun p => if p.1 = k then (p.1, p.2.1, v) else p) := by
  induction r with
  | nil => exact .nil
  | @cons p q ps qs h t ih =>
    rw [List.map_cons, List.map_cons]
    refine .cons ?_ ih
    by_cases e : q.1 = k
    · rw [if_pos (by rw [h.1, e]), if_pos e]; exact ⟨h.1, h.2.1, h.2.2.1, rv⟩
    · rw [if_neg (by rw [h.1]; simpa using e), if_neg e]; exact h
theorem tabOf.put {tab : TabD} {kvs : TabK} (r : tabOf K H tab kvs) {k : NestedKey} {d y : D} {b : Addr} {v : V} (hd : nkD d = some k) (h8 : k.depth ≤ 8) (hb : Dp K H (.ref b) d) (rv : Dp K H v y) :
    tabOf K H (tabPut tab d k y) (putN kvs k b v) := by
  unfold tabPut putN
  rw [(r.get k).1]
  split
  · exact r.repl k rv
  · exact Paired.snoc r ⟨hd, h8, hb, rv⟩
theorem tabOf.upd {tab : TabD} {kvs : TabK} {a : Addr} {φ ψ : Heap → Prop} (e : H a = some (.ext φ)) (r : tabOf K H tab kvs) : tabOf K (upd H a (.ext ψ)) tab kvs :=
  Paired.mapP r fun p q h => ⟨h.1, h.2.1, dp_upd_ext e _ _ h.2.2.1, dp_upd_ext e _ _ h.2.2.2⟩
theorem tabOf.sub {tab : TabD} {kvs : TabK} {H' : Hp} (e : Sub H H') (r : tabOf K H tab kvs) : tabOf K H' tab kvs :=
  Paired.mapP r fun p q h => ⟨h.1, h.2.1, dp_sub e _ _ h.2.2.1, dp_sub e _ _ h.2.2.2⟩
theorem tabOf.len {tab : TabD} {kvs : TabK} (r : tabOf K H tab kvs) : tab.length = kvs.length := Paired.length r
end
theorem TabIs.sub {X : Cx} {H H' : Hp} {a : Addr} {tab : TabD} (e : Sub H H') (h : TabIs X H a tab) : TabIs X H' a tab :=
  let ⟨kvs, h1, h2⟩ := h; ⟨kvs, e _ _ h1, h2.sub e⟩
theorem TabIs.new {X : Cx} {H : Hp} {a : Addr} : TabIs X (upd H a (TabO X.prog X.w a [])) a [] := ⟨[], upd_same, .nil⟩
section
variable {X : Cx} {pins : List (Addr × Obj)} {σ : SSt} {H : Hp} {s : Shared} {a b : Addr} {tab : TabD} {k : NestedKey} {d : D} {A : Around} {E : Value → Shared → Prop}
/-- d[k], there, of data -/
theorem t_getItem {y : D} {Q : Value → Shared → Prop} (hu : A.units + 9 < cLine) (I : Inv X pins σ H s) (h : TabIs X H a tab) (hd : nkD d = some k) (h8 : k.depth ≤ 8) (hb : Dp X.K H (.ref b) d) (l : tabGet tab k = some y)
    (q : ∀ v u s', Inv X pins σ H s' → RelV v u → Dp X.K H v y → Q u s') : wpAny (model X.prog X.w) A (getItem (.ref a) (.ref b)) Q E s := by
  obtain ⟨kvs, e, r⟩ := h
  obtain ⟨v, hv, rv⟩ := (r.get k).2 y l
  exact n_getItem hu I e r.keys hd h8 hb hv fun u s' I' ru => q v u s' I' ru rv
theorem t_in {Q : Value → Shared → Prop} (hu : A.units + 9 < cLine) (I : Inv X pins σ H s) (h : TabIs X H a tab) (hd : nkD d = some k) (h8 : k.depth ≤ 8) (hb : Dp X.K H (.ref b) d)
    (q : ∀ s', Inv X pins σ H s' → Q (.bool (tabGet tab k).isSome) s') : wpAny (model X.prog X.w) A (compareOp .In (.ref b) (.ref a)) Q E s := by
  obtain ⟨kvs, e, r⟩ := h
  exact n_in hu I e r.keys hd h8 hb fun s' I' => by rw [(r.get k).1]; exact q s' I'
theorem t_notIn {Q : Value → Shared → Prop} (hu : A.units + 9 < cLine) (I : Inv X pins σ H s) (h : TabIs X H a tab) (hd : nkD d = some k) (h8 : k.depth ≤ 8) (hb : Dp X.K H (.ref b) d)
    (q : ∀ s', Inv X pins σ H s' → Q (.bool (!(tabGet tab k).isSome)) s') : wpAny (model X.prog X.w) A (compareOp .NotIn (.ref b) (.ref a)) Q E s := by
  obtain ⟨kvs, e, r⟩ := h
  exact n_notIn hu I e r.keys hd h8 hb fun s' I' => by rw [(r.get k).1]; exact q s' I'
/-- d[k] = v: one object is changed, the new one is the dict with the pair put in -/
theorem t_setItem {y : D} {v : V} {r : Value} {Q : Unit → Shared → Prop} (hu : A.units + 9 < cLine) (I : Inv X pins σ H s) (h : TabIs X H a tab) (hd : nkD d = some k) (h8 : k.depth ≤ 8) (hb : Dp X.K H (.ref b) d)
    (l : tab.length < sizeLine) (rv : RelV v r) (hv : Dp X.K H v y)
    (q : ∀ s' kvs', TabIs X (upd H a (TabO X.prog X.w a kvs')) a (tabPut tab d k y) → Inv X pins σ (upd H a (TabO X.prog X.w a kvs')) s' → Q () s') :
    wpAny (model X.prog X.w) A (setItem (.ref a) (.ref b) r) Q E s := by
  obtain ⟨kvs, e, rel⟩ := h
  refine n_setItem hu I e rel.keys hd h8 hb (by rw [← rel.len]; exact l) rv fun s' I' => q s' _ ⟨_, upd_same, ?_⟩ I'
  exact (rel.put hd h8 hb hv).upd e
end
end Dl

set_option maxRecDepth 100000
set_option maxHeartbeats 2000000
namespace Dl
open PySem PySem.Spec L2
open PyProof.Rows hiding St


/-! ### the weakest readings -/
section
variable (X : Cx)
def WE (e : Expr) : TE := fun σ H Q => ∀ (pins : List (Addr × Obj)) (s : Shared), Inv X pins σ H s → wpAny (model X.prog X.w) X.A (eval e X.env) (EP X pins σ Q) X.xe s
def WT (e : Expr) : TT := fun σ H Q => ∀ (pins : List (Addr × Obj)) (s : Shared), Inv X pins σ H s → wpAny (model X.prog X.w) X.A (isTrue e X.env (eval e X.env)) (TP X pins σ Q) X.xe s
def WW (e : Expr) : TT := fun σ H Q => ∀ (whole : Sem Value) (pins : List (Addr × Obj)) (s : Shared), Inv X pins σ H s → wpAny (model X.prog X.w) X.A (isTrue e X.env whole) (TP X pins σ Q) X.xe s
def WA (es : List Expr) : TA := fun σ H Q => ∀ (pos : Pos) (pins : List (Addr × Obj)) (s : Shared), Inv X pins σ H s → wpAny (model X.prog X.w) X.A (spliced (backTo pos (starEach es X.env))) (AP X pins σ Q) X.xe s
def WS (st : Stmt) : TS := fun D σ H => ∀ (pins : List (Addr × Obj)) (s : Shared), Inv X pins σ H s → wpAny (model X.prog X.w) X.A (exec st X.env) (SP X pins D) X.xe s
def WSs (st : List Stmt) : TS := fun D σ H => ∀ (pins : List (Addr × Obj)) (s : Shared), Inv X pins σ H s → wpAny (model X.prog X.w) X.A (execs st X.env) (SP X pins D) X.xe s
def WG (tg : Expr) : TG := fun v σ H Q => ∀ (pins : List (Addr × Obj)) (s : Shared) (u : Value), Inv X pins σ H s → RelV v u → wpAny (model X.prog X.w) X.A (assign tg X.env u) (fun _ s' => ∃ σ' H', Inv X pins σ' H' s' ∧ Q σ' H') X.xe s
def WGs (ts : List Expr) : TGs := fun vs σ H Q => ∀ (pins : List (Addr × Obj)) (s : Shared) (us : List Value), Inv X pins σ H s → Vals vs us → wpAny (model X.prog X.w) X.A (assignInOrder ((assignEach ts X.env).map (·.2)) us) (fun _ s' => ∃ σ' H', Inv X pins σ' H' s' ∧ Q σ' H') X.xe s
def WI (tg iter : Expr) : TI := fun σ H R => ∀ (pins : List (Addr × Obj)) (s : Shared), Inv X pins σ H s → wpAny (model X.prog X.w) X.A (eval iter X.env) (fun v s1 => wpAny (model X.prog X.w) X.A (pyIter v) (PIE X pins σ tg R) X.xe s1) X.xe s
def WTs (ifs : List Expr) : TT := fun σ H Q => ∀ (pins : List (Addr × Obj)) (s : Shared), Inv X pins σ H s →
  wpAny (model X.prog X.w) X.A (forIn ifs true fun c r => if r = true then do let ok ← isTrue c X.env (eval c X.env); pure (ForInStep.yield ok) else pure (ForInStep.yield r)) (TP X pins σ Q) X.xe s
end
section
variable {X : Cx} {e tg iter : Expr} {es ts ifs : List Expr} {st : Stmt} {sts : List Stmt} {σ : SSt} {H : Hp}
theorem pe_we : PE X e (WE X e) := ⟨fun pins s _ _ _ I h => h pins s I⟩
theorem pt_wt : PT X e (WT X e) := ⟨fun pins s _ _ _ I h => h pins s I⟩
theorem pw_ww : PW X e (WW X e) := ⟨fun wh pins s _ _ _ I h => h wh pins s I⟩
theorem pa_wa : PA X es (WA X es) := ⟨fun pos pins s _ _ _ I h => h pos pins s I⟩
theorem ps_ws : PS X st (WS X st) := ⟨fun pins s _ _ _ I h => h pins s I⟩
theorem pss_wss : PSs X sts (WSs X sts) := ⟨fun pins s _ _ _ I h => h pins s I⟩
theorem pg_wg : PG X tg (WG X tg) := ⟨fun pins s _ _ _ u _ I r h => h pins s u I r⟩
theorem pgs_wgs : PGs X ts (WGs X ts) := ⟨fun pins s _ _ _ us _ I r h => h pins s us I r⟩
theorem pi_wi : PI X tg iter (WI X tg iter) := ⟨fun pins s _ _ _ I h => h pins s I⟩
theorem pts_wts : PTs X ifs (WTs X ifs) := ⟨fun pins s _ _ _ I h => h pins s I⟩
theorem WE.of {t : TE} {Q : VK} (h : PE X e t) (q : t σ H Q) : WE X e σ H Q := fun pins s I => h.run pins s σ H Q I q
theorem WT.of {t : TT} {Q : Bool → Hp → Prop} (h : PT X e t) (q : t σ H Q) : WT X e σ H Q := fun pins s I => h.run pins s σ H Q I q
theorem WW.of {t : TT} {Q : Bool → Hp → Prop} (h : PW X e t) (q : t σ H Q) : WW X e σ H Q := fun wh pins s I => h.run wh pins s σ H Q I q
theorem WA.of {t : TA} {Q : List V → Hp → Prop} (h : PA X es t) (q : t σ H Q) : WA X es σ H Q := fun pos pins s I => h.run pos pins s σ H Q I q
theorem WS.of {t : TS} {D : Ends} (h : PS X st t) (q : t D σ H) : WS X st D σ H := fun pins s I => h.run pins s σ H D I q
theorem WSs.of {t : TS} {D : Ends} (h : PSs X sts t) (q : t D σ H) : WSs X sts D σ H := fun pins s I => h.run pins s σ H D I q
theorem WG.of {t : TG} {v : V} {Q : SSt → Hp → Prop} (h : PG X tg t) (q : t v σ H Q) : WG X tg v σ H Q := fun pins s u I r => h.run pins s σ H v u Q I r q
theorem WGs.of {t : TGs} {vs : List V} {Q : SSt → Hp → Prop} (h : PGs X ts t) (q : t vs σ H Q) : WGs X ts vs σ H Q := fun pins s us I r => h.run pins s σ H vs us Q I r q
theorem WI.of {t : TI} {R : It → Hp → Prop} (h : PI X tg iter t) (q : t σ H R) : WI X tg iter σ H R := fun pins s I => h.run pins s σ H R I q
theorem WE.inv {Q : VK} (h : ∀ pins s, Inv X pins σ H s → WE X e σ H Q) : WE X e σ H Q := fun pins s I => h pins s I pins s I
end

/-! ### slots, what they hold -/
def SV.isO : SV → Prop
  | .own _ => True
  | .tab _ => True
  | _ => False
abbrev TB := Addr → TabK → HO
abbrev tbX (X : Cx) : TB := TabO X.prog X.w
/-- at a stands what this slot says; F: the heap that its parts are read in -/
def ObAt (T : TB) (K : PySem.W.Frag) (F H : Hp) (a : Addr) : SV → Prop
  | .own ds => ∃ vs, H a = some (HO.lst vs) ∧ DpAll K F vs ds
  | .tab kvs => ∃ t, H a = some (T a t) ∧ tabOf K F kvs t
  | _ => False
theorem ObAt.mono {T : TB} {K : PySem.W.Frag} {F F' H H' : Hp} {a : Addr} : ∀ {x : SV}, ObAt T K F H a x → Sub F F' → (∀ o, H a = some o → H' a = some o) → ObAt T K F' H' a x
  | .own ds, ⟨vs, h1, h2⟩, s, e => ⟨vs, e _ h1, dpAll_sub s ds vs h2⟩
  | .tab kvs, ⟨t, h1, h2⟩, s, e => ⟨t, e _ h1, h2.sub s⟩
theorem ObAt.some {T : TB} {K : PySem.W.Frag} {F H : Hp} {a : Addr} : ∀ {x : SV}, ObAt T K F H a x → ∃ o, H a = some o
  | .own _, ⟨_, h1, _⟩ => ⟨_, h1⟩
  | .tab _, ⟨_, h1, _⟩ => ⟨_, h1⟩
theorem ObAt.isO {T : TB} {K : PySem.W.Frag} {F H : Hp} {a : Addr} : ∀ {x : SV}, ObAt T K F H a x → x.isO
  | .own _, _ => True.intro
  | .tab _, _ => True.intro
def Own (ρ : Rho) (σ : SSt) (a : Addr) : Prop := ∃ (i : Nat) (x : SV), ρ[i]? = some x ∧ x.isO ∧ σ[i]? = some (some (V.ref a))
structure Pm where
  C : Addr → Prop
  H0 : Hp
  W0 : Addr → Prop
  pins : List (Nat × Addr)
  tb : TB
structure Pm.Ok (P : Pm) : Prop where
  fresh : ∀ p, P.H0 p = none → P.C p
  pinH : ∀ q ∈ P.pins, P.H0 q.2 ≠ none
def Wr (P : Pm) (ρ : Rho) (σ : SSt) (a : Addr) : Prop := P.W0 a ∨ Own ρ σ a
structure ER (K : PySem.W.Frag) (P : Pm) (ρ : Rho) (σ : SSt) (H : Hp) : Prop where
  len : ρ.length = σ.length
  val : ∀ (i : Nat) (d : D), ρ[i]? = some (SV.val d) → ∃ v, σ[i]? = some (some v) ∧ Dp K (hid (Wr P ρ σ) H) v d
  obj : ∀ (i : Nat) (x : SV), ρ[i]? = some x → x.isO → ∃ a, σ[i]? = some (some (V.ref a)) ∧ P.C a ∧ ObAt P.tb K (hid (Wr P ρ σ) H) H a x
  sep : ∀ (i j : Nat) (x y : SV) (a : Addr), ρ[i]? = some x → x.isO → ρ[j]? = some y → y.isO → σ[i]? = some (some (V.ref a)) → σ[j]? = some (some (V.ref a)) → i = j
  w0 : ∀ p, P.W0 p → H p ≠ none
  hist : ∀ p o, P.H0 p = some o → ¬ P.C p → H p = some o
  dom : ∀ p, H p = none → P.H0 p = none
  pin : ∀ q ∈ P.pins, σ[q.1]? = some (some (V.ref q.2))
  nw : ∀ (i : Nat) (x : SV) (a : Addr), ρ[i]? = some x → x.isO → σ[i]? = some (some (V.ref a)) → (∀ q ∈ P.pins, q.1 ≠ i) → ¬ P.W0 a
theorem ER.own {K : PySem.W.Frag} {P : Pm} {ρ : Rho} {σ : SSt} {H : Hp} (e : ER K P ρ σ H) (i : Nat) (ds : List D) (h : ρ[i]? = some (SV.own ds)) : ∃ a vs, σ[i]? = some (some (V.ref a)) ∧ P.C a ∧ H a = some (HO.lst vs) ∧ DpAll K (hid (Wr P ρ σ) H) vs ds := by
  obtain ⟨a, h1, h2, vs, h3, h4⟩ := e.obj i _ h True.intro
  exact ⟨a, vs, h1, h2, h3, h4⟩
theorem ER.tab {K : PySem.W.Frag} {P : Pm} {ρ : Rho} {σ : SSt} {H : Hp} (e : ER K P ρ σ H) (i : Nat) (kvs : TabD) (h : ρ[i]? = some (SV.tab kvs)) : ∃ a t, σ[i]? = some (some (V.ref a)) ∧ P.C a ∧ H a = some (P.tb a t) ∧ tabOf K (hid (Wr P ρ σ) H) kvs t := by
  obtain ⟨a, h1, h2, t, h3, h4⟩ := e.obj i _ h True.intro
  exact ⟨a, t, h1, h2, h3, h4⟩
structure Nx (K : PySem.W.Frag) (P : Pm) (ρ : Rho) (σ : SSt) (H : Hp) (ρ' : Rho) (σ' : SSt) (H' : Hp) : Prop where
  er : ER K P ρ' σ' H'
  own : ∀ p, Own ρ' σ' p → Own ρ σ p ∨ H p = none
  ev : ∀ p o, H p = some o → ¬ Own ρ σ p → H' p = some o
  dom : ∀ p, H' p = none → H p = none
section
variable {K : PySem.W.Frag} {P : Pm} {ρ ρ1 ρ2 : Rho} {σ σ1 σ2 : SSt} {H H1 H2 : Hp}
theorem Nx.refl (e : ER K P ρ σ H) : Nx K P ρ σ H ρ σ H := ⟨e, fun _ h => .inl h, fun _ _ h _ => h, fun _ h => h⟩
theorem Nx.trans (a : Nx K P ρ σ H ρ1 σ1 H1) (b : Nx K P ρ1 σ1 H1 ρ2 σ2 H2) : Nx K P ρ σ H ρ2 σ2 H2 := by
  refine ⟨b.er, fun p h => ?_, fun p o h n => ?_, fun p h => a.dom p (b.dom p h)⟩
  · rcases b.own p h with h | h
    · exact a.own p h
    · exact .inr (a.dom p h)
  · refine b.ev p o (a.ev p o h n) fun q => ?_
    rcases a.own p q with z | z
    · exact n z
    · rw [h] at z; cases z
theorem ER.own_some (e : ER K P ρ σ H) {p : Addr} (h : Own ρ σ p) : ∃ o, H p = some o := by
  obtain ⟨i, x, h1, hx, h2⟩ := h
  obtain ⟨a, h3, _, h4⟩ := e.obj i x h1 hx
  rw [h2] at h3; cases h3
  exact h4.some
theorem ER.wr_some (e : ER K P ρ σ H) {p : Addr} (h : Wr P ρ σ p) : H p ≠ none := by
  rcases h with h | h
  · exact e.w0 p h
  · obtain ⟨o, q⟩ := e.own_some h
    rw [q]; exact fun z => by cases z
theorem ER.nwr (e : ER K P ρ σ H) {p : Addr} (h : H p = none) : ¬ Wr P ρ σ p := fun w => e.wr_some w h
theorem Nx.sub (a : Nx K P ρ σ H ρ1 σ1 H1) : Sub (hid (Wr P ρ σ) H) (hid (Wr P ρ1 σ1) H1) := fun p o h => by
  obtain ⟨n, e⟩ := hid_some.mp h
  refine hid_some.mpr ⟨fun w => ?_, a.ev p o e fun q => n (.inr q)⟩
  rcases w with w | w
  · exact n (.inl w)
  · rcases a.own p w with z | z
    · exact n (.inr z)
    · rw [e] at z; cases z
theorem Nx.keep (a : Nx K P ρ σ H ρ1 σ1 H1) {d : D} {v : V} (h : Dp K (hid (Wr P ρ σ) H) v d) : Dp K (hid (Wr P ρ1 σ1) H1) v d := dp_sub a.sub d v h
theorem Nx.keepAll (a : Nx K P ρ σ H ρ1 σ1 H1) {ds : List D} {vs : List V} (h : DpAll K (hid (Wr P ρ σ) H) vs ds) : DpAll K (hid (Wr P ρ1 σ1) H1) vs ds := dpAll_sub a.sub ds vs h
/-- the heap grows -/
theorem ER.ext (e : ER K P ρ σ H) (s : Sub H H1) : Nx K P ρ σ H ρ σ H1 := by
  have ns : ∀ p, H1 p = none → H p = none := fun p h => by
    cases q : H p with
    | none => rfl
    | some o => rw [s p o q] at h; cases h
  refine ⟨⟨e.len, fun i d h => ?_, fun i x h hx => ?_, e.sep, fun p w z => e.w0 p w (ns p z), fun p o h n => s p o (e.hist p o h n), fun p h => e.dom p (ns p h), e.pin, e.nw⟩, fun _ h => .inl h, fun p o h _ => s p o h, ns⟩
  · obtain ⟨v, h1, h2⟩ := e.val i d h
    exact ⟨v, h1, dp_sub (hid_sub s) d v h2⟩
  · obtain ⟨a, h1, h2, h3⟩ := e.obj i x h hx
    exact ⟨a, h1, h2, h3.mono (hid_sub s) fun o => s a o⟩
/-- a new tuple, a new list that stands still -/
theorem ER.newTup (e : ER K P ρ σ H) {p : Addr} {vs : List V} {ds : List D} (h : H p = none) (r : DpAll K (hid (Wr P ρ σ) H) vs ds) : Dp K (hid (Wr P ρ σ) (upd H p (.tup vs))) (.ref p) (.tuple ds) :=
  .tup (.inl (.inl (hid_some.mpr ⟨e.nwr h, upd_same⟩))) (dpAll_sub (hid_sub (Sub.upd h)) ds vs r)
theorem ER.newLst (e : ER K P ρ σ H) {p : Addr} {vs : List V} {ds : List D} (h : H p = none) (r : DpAll K (hid (Wr P ρ σ) H) vs ds) : Dp K (hid (Wr P ρ σ) (upd H p (.lst vs))) (.ref p) (.list ds) :=
  .lst (.inl (.inl (hid_some.mpr ⟨e.nwr h, upd_same⟩))) (dpAll_sub (hid_sub (Sub.upd h)) ds vs r)
end
end Dl

set_option maxRecDepth 100000
set_option maxHeartbeats 2000000
/-! The slots under stores. -/
namespace Dl
open PySem PySem.Spec L2
open PyProof.Rows hiding St

theorem get_set_self {α : Type} {l : List α} {i : Nat} {x : α} (h : i < l.length) : (l.set i x)[i]? = some x := List.getElem?_set_self h
theorem get_set_ne {α : Type} {l : List α} {i j : Nat} {x : α} (h : i ≠ j) : (l.set i x)[j]? = l[j]? := List.getElem?_set_ne h
theorem lt_of_get {α : Type} {l : List α} {i : Nat} {x : α} (h : l[i]? = some x) : i < l.length := (List.getElem?_eq_some_iff.mp h).1
theorem hid_grow {W W' : Addr → Prop} {H H' : Hp} (h : ∀ a, W' a → W a ∨ H a = none) (s : Sub H H') : Sub (hid W H) (hid W' H') := fun p o e => by
  obtain ⟨n, q⟩ := hid_some.mp e
  refine hid_some.mpr ⟨fun w => ?_, s p o q⟩
  rcases h p w with z | z
  · exact n z
  · rw [q] at z; cases z
theorem hid_but {W : Addr → Prop} {H H' : Hp} {a : Addr} (wa : W a) (s : ∀ p o, H p = some o → p ≠ a → H' p = some o) : Sub (hid W H) (hid W H') := fun p o e => by
  obtain ⟨n, q⟩ := hid_some.mp e
  exact hid_some.mpr ⟨n, s p o q fun z => n (z ▸ wa)⟩

section
variable {K : PySem.W.Frag} {P : Pm} {ρ ρ0 ρ1 ρ2 : Rho} {σ σ0 σ1 σ2 : SSt} {H H0 H1 H2 : Hp} {i j : Nat} {d : D} {ds ds' : List D} {v : V} {vs vs' : List V} {a p : Addr}

theorem ER.lts (e : ER K P ρ σ H) {x : SV} (h : ρ[i]? = some x) : i < σ.length := by rw [← e.len]; exact lt_of_get h
theorem own_setVal (h : Own (ρ.set i (.val d)) σ a) : Own ρ σ a := by
  obtain ⟨j, x, h1, hx, h2⟩ := h
  by_cases q : i = j
  · subst q
    by_cases l : i < ρ.length
    · rw [get_set_self l] at h1; cases h1; exact hx.elim
    · rw [List.getElem?_eq_none (by simpa using l)] at h1; cases h1
  · rw [get_set_ne q] at h1
    exact ⟨j, x, h1, hx, h2⟩
theorem own_setVal2 {x : Option V} (h : Own (ρ.set i (.val d)) (σ.set i x) a) : Own ρ σ a := by
  obtain ⟨j, y, h1, hy, h2⟩ := h
  by_cases q : i = j
  · subst q
    by_cases l : i < ρ.length
    · rw [get_set_self l] at h1; cases h1; exact hy.elim
    · rw [List.getElem?_eq_none (by simpa using l)] at h1; cases h1
  · rw [get_set_ne q] at h1 h2
    exact ⟨j, y, h1, hy, h2⟩
theorem wr_le {P : Pm} (h : ∀ a, Own ρ1 σ1 a → Own ρ σ a) : ∀ a, Wr P ρ1 σ1 a → Wr P ρ σ a := fun a w => w.elim .inl fun q => .inr (h a q)
/-- behind a store of a slot: what still is there -/
theorem get_back {x y : SV} {n : SV} (q : (ρ.set i n)[j]? = some x) (hx : x.isO) (hn : ¬ n.isO) : ρ[j]? = some x ∧ i ≠ j := by
  by_cases z : i = j
  · subst z
    by_cases l : i < ρ.length
    · rw [get_set_self l] at q; cases q; exact absurd hx hn
    · rw [List.getElem?_eq_none (by simpa using l)] at q; cases q
  · rw [get_set_ne z] at q; exact ⟨q, z⟩
/-- an own list stands still from here on -/
theorem ER.freeze (e : ER K P ρ σ H) (h : ρ[i]? = some (.own ds)) (hp : ∀ q ∈ P.pins, q.1 ≠ i) :
    Nx K P ρ σ H (ρ.set i (.val (.list ds))) σ H ∧ ∃ a, σ[i]? = some (some (V.ref a)) ∧ Dp K (hid (Wr P (ρ.set i (.val (.list ds))) σ) H) (.ref a) (.list ds) := by
  have li := lt_of_get h
  obtain ⟨a, vs, h1, h2, h3, h4⟩ := e.own i ds h
  have mono : ∀ b, Own (ρ.set i (.val (.list ds))) σ b → Own ρ σ b := fun b => own_setVal
  have no : ¬ (SV.val (.list ds)).isO := fun z => z
  have na : ¬ Wr P (ρ.set i (.val (.list ds))) σ a := by
    rintro (w | ⟨j, x, q1, hx, q2⟩)
    · exact e.nw i _ a h True.intro h1 hp w
    · obtain ⟨q1, q⟩ := get_back (y := x) q1 hx no
      exact q (e.sep i j _ x a h True.intro q1 hx h1 q2)
  have hs : Sub (hid (Wr P ρ σ) H) (hid (Wr P (ρ.set i (.val (.list ds))) σ) H) := hid_mono (wr_le mono)
  have rep : Dp K (hid (Wr P (ρ.set i (.val (.list ds))) σ) H) (.ref a) (.list ds) := .lst (.inl (.inl (hid_some.mpr ⟨na, h3⟩))) (dpAll_sub hs ds vs h4)
  refine ⟨⟨⟨by simpa using e.len, fun j d q => ?_, fun j x q hx => ?_, fun j k x y b q1 hx q2 hy => ?_, e.w0, e.hist, e.dom, e.pin, fun j x b q1 hx q2 => ?_⟩, fun b w => .inl (mono b w), fun _ _ q _ => q, fun _ q => q⟩, a, h1, rep⟩
  · by_cases z : i = j
    · subst z
      rw [get_set_self li] at q; cases q
      exact ⟨_, h1, rep⟩
    · rw [get_set_ne z] at q
      obtain ⟨v, r1, r2⟩ := e.val j d q
      exact ⟨v, r1, dp_sub hs d v r2⟩
  · obtain ⟨q, z⟩ := get_back (y := x) q hx no
    obtain ⟨b, r1, r2, r3⟩ := e.obj j x q hx
    exact ⟨b, r1, r2, r3.mono hs fun _ z => z⟩
  · obtain ⟨q1, z⟩ := get_back (y := x) q1 hx no
    obtain ⟨q2, z'⟩ := get_back (y := y) q2 hy no
    exact e.sep j k x y b q1 hx q2 hy
  · obtain ⟨q1, z⟩ := get_back (y := x) q1 hx no
    exact e.nw j x b q1 hx q2
/-- a name is stored -/
theorem ER.setVal (e : ER K P ρ σ H) (li : i < ρ.length) (hp : ∀ q ∈ P.pins, q.1 ≠ i) (r : Dp K (hid (Wr P ρ σ) H) v d) : Nx K P ρ σ H (ρ.set i (.val d)) (σ.set i (some v)) H := by
  have lj : i < σ.length := by rw [← e.len]; exact li
  have mono : ∀ b, Own (ρ.set i (.val d)) (σ.set i (some v)) b → Own ρ σ b := fun b => own_setVal2
  have no : ¬ (SV.val d).isO := fun z => z
  have hs : Sub (hid (Wr P ρ σ) H) (hid (Wr P (ρ.set i (.val d)) (σ.set i (some v))) H) := hid_mono (wr_le mono)
  refine ⟨⟨by simpa using e.len, fun j d' q => ?_, fun j x q hx => ?_, fun j k x y b q1 hx q2 hy q3 q4 => ?_, e.w0, e.hist, e.dom, fun q hq => ?_, fun j x b q1 hx q2 => ?_⟩, fun b w => .inl (mono b w), fun _ _ q _ => q, fun _ q => q⟩
  · by_cases z : i = j
    · subst z
      rw [get_set_self li] at q; cases q
      exact ⟨v, get_set_self lj, dp_sub hs _ _ r⟩
    · rw [get_set_ne z] at q
      obtain ⟨u, r1, r2⟩ := e.val j d' q
      exact ⟨u, by rw [get_set_ne z]; exact r1, dp_sub hs _ _ r2⟩
  · obtain ⟨q, z⟩ := get_back (y := x) q hx no
    obtain ⟨b, r1, r2, r3⟩ := e.obj j x q hx
    exact ⟨b, by rw [get_set_ne z]; exact r1, r2, r3.mono hs fun _ z => z⟩
  · obtain ⟨q1, z⟩ := get_back (y := x) q1 hx no
    obtain ⟨q2, z'⟩ := get_back (y := y) q2 hy no
    rw [get_set_ne z] at q3; rw [get_set_ne z'] at q4
    exact e.sep j k x y b q1 hx q2 hy q3 q4
  · rw [get_set_ne fun z => hp q hq z.symm]
    exact e.pin q hq
  · obtain ⟨q1, z⟩ := get_back (y := x) q1 hx no
    rw [get_set_ne z] at q2
    exact e.nw j x b q1 hx q2
/-- a slot is forgotten -/
theorem ER.setUn (e : ER K P ρ σ H) (hp : ∀ q ∈ P.pins, q.1 ≠ i) : Nx K P ρ σ H (ρ.set i .un) (σ.set i none) H := by
  have no : ¬ SV.un.isO := fun z => z
  have mono : ∀ b, Own (ρ.set i .un) (σ.set i none) b → Own ρ σ b := fun b ⟨j, x, q1, hx, q2⟩ => by
    obtain ⟨q1, z⟩ := get_back (y := x) q1 hx no
    rw [get_set_ne z] at q2
    exact ⟨j, x, q1, hx, q2⟩
  have hs : Sub (hid (Wr P ρ σ) H) (hid (Wr P (ρ.set i .un) (σ.set i none)) H) := hid_mono (wr_le mono)
  refine ⟨⟨by simpa using e.len, fun j d' q => ?_, fun j x q hx => ?_, fun j k x y b q1 hx q2 hy q3 q4 => ?_, e.w0, e.hist, e.dom, fun q hq => ?_, fun j x b q1 hx q2 => ?_⟩, fun b w => .inl (mono b w), fun _ _ q _ => q, fun _ q => q⟩
  · by_cases z : i = j
    · subst z
      by_cases l : i < ρ.length
      · rw [get_set_self l] at q; cases q
      · rw [List.getElem?_eq_none (by simpa using l)] at q; cases q
    · rw [get_set_ne z] at q
      obtain ⟨u, r1, r2⟩ := e.val j d' q
      exact ⟨u, by rw [get_set_ne z]; exact r1, dp_sub hs _ _ r2⟩
  · obtain ⟨q, z⟩ := get_back (y := x) q hx no
    obtain ⟨b, r1, r2, r3⟩ := e.obj j x q hx
    exact ⟨b, by rw [get_set_ne z]; exact r1, r2, r3.mono hs fun _ z => z⟩
  · obtain ⟨q1, z⟩ := get_back (y := x) q1 hx no
    obtain ⟨q2, z'⟩ := get_back (y := y) q2 hy no
    rw [get_set_ne z] at q3; rw [get_set_ne z'] at q4
    exact e.sep j k x y b q1 hx q2 hy q3 q4
  · rw [get_set_ne fun z => hp q hq z.symm]
    exact e.pin q hq
  · obtain ⟨q1, z⟩ := get_back (y := x) q1 hx no
    rw [get_set_ne z] at q2
    exact e.nw j x b q1 hx q2

/-! ### an object that is new, apart from all -/
def Pm.av (P : Pm) (p : Addr) : Pm := { P with W0 := fun a => P.W0 a ∨ a = p }
theorem Pm.Ok.av (o : P.Ok) : (P.av p).Ok := ⟨o.fresh, o.pinH⟩
theorem ER.av (e : ER K P ρ σ H) (hp : H p = none) (s : Sub H H1) (hn : H1 p ≠ none) : ER K (P.av p) ρ σ H1 := by
  have nx := e.ext s
  have e1 := nx.er
  have own_ne : ∀ b, Own ρ σ b → b ≠ p := fun b w z => by
    obtain ⟨vs, q⟩ := e.own_some w
    rw [z, hp] at q; cases q
  have hs : Sub (hid (Wr P ρ σ) H) (hid (Wr (P.av p) ρ σ) H1) := hid_grow (fun b w => by
    rcases w with w | w
    · rcases w with w | w
      · exact .inl (.inl w)
      · exact .inr (w ▸ hp)
    · exact .inl (.inr w)) s
  refine ⟨e.len, fun j d q => ?_, fun j x q hx => ?_, e.sep, fun b w => ?_, e1.hist, e1.dom, e.pin, fun j x b q1 hx q2 q3 w => ?_⟩
  · obtain ⟨v, r1, r2⟩ := e.val j d q
    exact ⟨v, r1, dp_sub hs _ _ r2⟩
  · obtain ⟨b, r1, r2, r3⟩ := e.obj j x q hx
    exact ⟨b, r1, r2, r3.mono hs fun o => s b o⟩
  · rcases w with w | w
    · exact e1.w0 b w
    · rw [w]; exact hn
  · rcases w with w | w
    · exact e.nw j x b q1 hx q2 q3 w
    · exact own_ne b ⟨j, x, q1, hx, q2⟩ w
theorem ER.unav (e : ER K (P.av p) ρ σ H) : ER K P ρ σ H := by
  have hs : Sub (hid (Wr (P.av p) ρ σ) H) (hid (Wr P ρ σ) H) := hid_mono fun b w => w.elim (fun z => .inl (.inl z)) .inr
  refine ⟨e.len, fun j d q => ?_, fun j x q hx => ?_, e.sep, fun b w => e.w0 b (.inl w), e.hist, e.dom, e.pin, fun j x b q1 hx q2 q3 w => e.nw j x b q1 hx q2 q3 (.inl w)⟩
  · obtain ⟨v, r1, r2⟩ := e.val j d q
    exact ⟨v, r1, dp_sub hs _ _ r2⟩
  · obtain ⟨b, r1, r2, r3⟩ := e.obj j x q hx
    exact ⟨b, r1, r2, r3.mono hs fun _ z => z⟩
theorem Nx.unav (n : Nx K (P.av p) ρ σ H ρ1 σ1 H1) : Nx K P ρ σ H ρ1 σ1 H1 := ⟨n.er.unav, n.own, n.ev, n.dom⟩
/-- v is a new list of ds, seen from H -/
def Fr (K : PySem.W.Frag) (P : Pm) (ρ : Rho) (σ : SSt) (H H' : Hp) (v : V) (ds : List D) : Prop :=
  ∃ p vs, v = .ref p ∧ H p = none ∧ H' p = some (HO.lst vs) ∧ ER K (P.av p) ρ σ H' ∧ DpAll K (hid (Wr (P.av p) ρ σ) H') vs ds
/-- v is a new object, seen from H -/
def FrO (K : PySem.W.Frag) (P : Pm) (ρ : Rho) (σ : SSt) (H H' : Hp) (v : V) (x : SV) : Prop :=
  ∃ p, v = .ref p ∧ H p = none ∧ ER K (P.av p) ρ σ H' ∧ ObAt P.tb K (hid (Wr (P.av p) ρ σ) H') H' p x
theorem Fr.obj (f : Fr K P ρ σ H H1 v ds) : FrO K P ρ σ H H1 v (.own ds) := by
  obtain ⟨p, vs, h1, h2, h3, h4, h5⟩ := f
  exact ⟨p, h1, h2, h4, vs, h3, h5⟩
theorem Fr.of (e : ER K P ρ σ H1) (hp : H1 p = none) (h0 : H p = none) (s : Sub H1 H2) (hl : H2 p = some (.lst vs)) (r : DpAll K (hid (fun b => Wr P ρ σ b ∨ b = p) H2) vs ds) : Fr K P ρ σ H H2 (.ref p) ds := by
  refine ⟨p, vs, rfl, h0, hl, e.av hp s (by rw [hl]; exact fun z => by cases z), dpAll_sub (hid_mono fun b w => ?_) ds vs r⟩
  rcases w with (w | w) | w
  · exact .inl (.inl w)
  · exact .inr w
  · exact .inl (.inr w)
theorem Fr.nown (ok : P.Ok) (es : ER K P ρ0 σ0 H0) (e : ER K (P.av p) ρ σ H) (h0 : H0 p = none) : ¬ Own ρ σ p := fun ⟨j, x, q1, hx, q2⟩ => by
  by_cases hq : ∀ q ∈ P.pins, q.1 ≠ j
  · exact e.nw j x p q1 hx q2 hq (.inr rfl)
  · simp only [Classical.not_forall] at hq
    obtain ⟨q, hq1, hq2⟩ := hq
    have hq2 : q.1 = j := Classical.not_not.mp hq2
    have z := e.pin q hq1
    rw [hq2, q2] at z
    have z' : p = q.2 := by cases z; rfl
    exact ok.pinH q hq1 (z' ▸ es.dom p h0)
/-- x = a new object -/
theorem Nx.setObj {x : SV} (ok : P.Ok) (es : ER K P ρ0 σ0 H0) (n : Nx K P ρ0 σ0 H0 ρ σ H) (f : FrO K P ρ σ H0 H v x) (li : i < ρ.length) (hp : ∀ q ∈ P.pins, q.1 ≠ i) : Nx K P ρ0 σ0 H0 (ρ.set i x) (σ.set i (some v)) H := by
  obtain ⟨p, rfl, h0, e, r⟩ := f
  have lj : i < σ.length := by rw [← e.len]; exact li
  have nown := Fr.nown ok es e h0
  have cp : P.C p := ok.fresh p (es.dom p h0)
  have nw0 : ¬ P.W0 p := fun w => es.w0 p w h0
  have hxo := r.isO
  -- the own slots behind the store
  have own' : ∀ b, Own (ρ.set i x) (σ.set i (some (.ref p))) b → Own ρ σ b ∨ b = p := fun b ⟨j, y, q1, hy, q2⟩ => by
    by_cases z : i = j
    · subst z
      rw [get_set_self lj] at q2; cases q2
      exact .inr rfl
    · rw [get_set_ne z] at q1 q2
      exact .inl ⟨j, y, q1, hy, q2⟩
  have hs : Sub (hid (Wr (P.av p) ρ σ) H) (hid (Wr P (ρ.set i x) (σ.set i (some (.ref p)))) H) := hid_mono fun b w => by
    rcases w with w | w
    · exact .inl (.inl w)
    · rcases own' b w with w | w
      · exact .inr w
      · exact .inl (.inr w)
  have e0 := n.er
  refine ⟨⟨by simpa using e.len, fun j d' q => ?_, fun j y q hy => ?_, fun j k y u b q1 hy q2 hu q3 q4 => ?_, e0.w0, e0.hist, e0.dom, fun q hq => ?_, fun j y b q1 hy q2 q3 => ?_⟩, fun b w => ?_, n.ev, n.dom⟩
  · by_cases z : i = j
    · subst z; rw [get_set_self li] at q; cases q; exact hxo.elim
    · rw [get_set_ne z] at q
      obtain ⟨u, r1, r2⟩ := e.val j d' q
      exact ⟨u, by rw [get_set_ne z]; exact r1, dp_sub hs _ _ r2⟩
  · by_cases z : i = j
    · subst z
      rw [get_set_self li] at q; cases q
      exact ⟨p, get_set_self lj, cp, r.mono hs fun _ z => z⟩
    · rw [get_set_ne z] at q
      obtain ⟨b, r1, r2, r3⟩ := e.obj j y q hy
      exact ⟨b, by rw [get_set_ne z]; exact r1, r2, r3.mono hs fun _ z => z⟩
  · by_cases z : i = j
    · by_cases z' : i = k
      · omega
      · subst z
        rw [get_set_self lj] at q3; cases q3
        rw [get_set_ne z'] at q2 q4
        exact (nown ⟨k, u, q2, hu, q4⟩).elim
    · by_cases z' : i = k
      · subst z'
        rw [get_set_self lj] at q4; cases q4
        rw [get_set_ne z] at q1 q3
        exact (nown ⟨j, y, q1, hy, q3⟩).elim
      · rw [get_set_ne z] at q1 q3; rw [get_set_ne z'] at q2 q4
        exact e.sep j k y u b q1 hy q2 hu q3 q4
  · rw [get_set_ne fun z => hp q hq z.symm]
    exact e.pin q hq
  · by_cases z : i = j
    · subst z
      rw [get_set_self lj] at q2; cases q2
      exact nw0
    · rw [get_set_ne z] at q1 q2
      exact e0.nw j y b q1 hy q2 q3
  · rcases own' b w with w | w
    · exact n.own b w
    · exact .inr (w ▸ h0)
/-- x = a new list -/
theorem Nx.setOwn (ok : P.Ok) (es : ER K P ρ0 σ0 H0) (n : Nx K P ρ0 σ0 H0 ρ σ H) (f : Fr K P ρ σ H0 H v ds) (li : i < ρ.length) (hp : ∀ q ∈ P.pins, q.1 ≠ i) : Nx K P ρ0 σ0 H0 (ρ.set i (.own ds)) (σ.set i (some v)) H := n.setObj ok es f.obj li hp
/-- an own object is another one -/
theorem ER.setObjAt {x y : SV} (e : ER K P ρ σ H) (h : ρ[i]? = some x) (hx : x.isO) (ha : σ[i]? = some (some (V.ref a))) (s : ∀ p o, H p = some o → p ≠ a → H1 p = some o) (r : ObAt P.tb K (hid (Wr P ρ σ) H1) H1 a y) :
    Nx K P ρ σ H (ρ.set i y) σ H1 := by
  have li := lt_of_get h
  have oa : Own ρ σ a := ⟨i, x, h, hx, ha⟩
  have hy := r.isO
  obtain ⟨a', g1, g2, _⟩ := e.obj i x h hx
  rw [ha] at g1; cases g1
  obtain ⟨o1, hl⟩ := r.some
  have ownIff : ∀ b, Own (ρ.set i y) σ b ↔ Own ρ σ b := fun b => ⟨fun ⟨j, u, q1, hu, q2⟩ => by
      by_cases z : i = j
      · subst z; exact ⟨i, x, h, hx, q2⟩
      · rw [get_set_ne z] at q1; exact ⟨j, u, q1, hu, q2⟩, fun ⟨j, u, q1, hu, q2⟩ => by
      by_cases z : i = j
      · subst z; exact ⟨i, y, get_set_self li, hy, q2⟩
      · exact ⟨j, u, by rw [get_set_ne z]; exact q1, hu, q2⟩⟩
  have dom : ∀ p, H1 p = none → H p = none := fun p q => by
    cases z : H p with
    | none => rfl
    | some o =>
      by_cases y : p = a
      · subst y; rw [hl] at q; cases q
      · rw [s p o z y] at q; cases q
  have hs : Sub (hid (Wr P ρ σ) H) (hid (Wr P ρ σ) H1) := hid_but (.inr oa) s
  have hs2 : Sub (hid (Wr P ρ σ) H1) (hid (Wr P (ρ.set i y) σ) H1) := hid_mono (wr_le fun b => (ownIff b).mp)
  refine ⟨⟨by simpa using e.len, fun j d q => ?_, fun j u q hu => ?_, fun j k u v b q1 hu q2 hv q3 q4 => ?_, fun p w z => e.w0 p w (dom p z), fun p o q n => s p o (e.hist p o q n) fun z => n (z ▸ g2), fun p q => e.dom p (dom p q), e.pin, fun j u b q1 hu q2 q3 => ?_⟩, fun b w => .inl ((ownIff b).mp w), fun p o q n => s p o q fun z => n (z ▸ oa), dom⟩
  · by_cases z : i = j
    · subst z; rw [get_set_self li] at q; cases q; exact hy.elim
    · rw [get_set_ne z] at q
      obtain ⟨u, r1, r2⟩ := e.val j d q
      exact ⟨u, r1, dp_sub (hs.trans hs2) _ _ r2⟩
  · by_cases z : i = j
    · subst z
      rw [get_set_self li] at q; cases q
      exact ⟨a, ha, g2, r.mono hs2 fun _ z => z⟩
    · rw [get_set_ne z] at q
      obtain ⟨b, r1, r2, r3⟩ := e.obj j u q hu
      exact ⟨b, r1, r2, r3.mono (hs.trans hs2) fun o w => s b o w fun y => z (e.sep i j x u a h hx q hu ha (y ▸ r1))⟩
  · by_cases z : i = j
    · by_cases z' : i = k
      · omega
      · subst z
        rw [get_set_ne z'] at q2
        exact e.sep i k x v b h hx q2 hv q3 q4
    · by_cases z' : i = k
      · subst z'
        rw [get_set_ne z] at q1
        exact e.sep j i u x b q1 hu h hx q3 q4
      · rw [get_set_ne z] at q1; rw [get_set_ne z'] at q2
        exact e.sep j k u v b q1 hu q2 hv q3 q4
  · by_cases z : i = j
    · subst z; exact e.nw i x b h hx q2 q3
    · rw [get_set_ne z] at q1
      exact e.nw j u b q1 hu q2 q3
/-- an own list has other items -/
theorem ER.setOwnAt (e : ER K P ρ σ H) (h : ρ[i]? = some (.own ds)) (ha : σ[i]? = some (some (V.ref a))) (s : ∀ p o, H p = some o → p ≠ a → H1 p = some o) (hl : H1 a = some (HO.lst vs')) (r : DpAll K (hid (Wr P ρ σ) H1) vs' ds') :
    Nx K P ρ σ H (ρ.set i (.own ds')) σ H1 := e.setObjAt h True.intro ha s ⟨vs', hl, r⟩
end
end Dl

set_option maxRecDepth 100000
set_option maxHeartbeats 2000000
/-! Operators by data. -/
namespace Dl
open PySem PySem.Spec L2
open PyProof.Rows hiding St

theorem line_eq : line = sizeLine := by rw [sizeLine_eq]; rfl
theorem chk_some {b : Bool} {d e : D} (h : chk b d = some e) : b = true ∧ d = e := by
  cases b with
  | true => exact ⟨rfl, Option.some.inj h⟩
  | false => cases h
theorem and_tt {a b : Bool} (h : (a && b) = true) : a = true ∧ b = true := Bool.and_eq_true_iff.mp h
section
variable {K : PySem.W.Frag} {H : Hp} {v : V}
theorem dp_none (h : Dp K H v .none) : v = .non := by cases h; rfl
theorem dp_bool {b : Bool} (h : Dp K H v (.bool b)) : v = .bl b := by cases h; rfl
theorem dp_int {i : Int} (h : Dp K H v (.int i)) : v = .int i := by cases h; rfl
theorem dp_str {x : Str} (h : Dp K H v (.str x)) : v = .str x := by cases h; rfl
theorem dp_list {ds : List D} (h : Dp K H v (.list ds)) : ∃ a xs, v = .ref a ∧ SqL K H a xs ∧ DpAll K H xs ds := by
  cases h with
  | lst hs ha => exact ⟨_, _, rfl, hs, ha⟩
theorem dp_tup {ds : List D} (h : Dp K H v (.tuple ds)) : ∃ a xs, v = .ref a ∧ SqT K H a xs ∧ DpAll K H xs ds := by
  cases h with
  | tup hs ha => exact ⟨_, _, rfl, hs, ha⟩
theorem dp_dict {kvs : List (D × D)} (h : Dp K H v (.dict kvs)) : False := by cases h
end

/-- a value that comes of an operation: the heap has grown, it stands for d; where d is a list, it is new -/
structure Res (K : PySem.W.Frag) (W : Addr → Prop) (H H' : Hp) (v : V) (d : D) : Prop where
  sub : Sub H H'
  dp : Dp K (hid W H') v d
structure ResF (K : PySem.W.Frag) (W : Addr → Prop) (H H' : Hp) (v : V) (d : D) : Prop extends Res K W H H' v d where
  fr : ∀ ds, d = .list ds → ∃ p vs, v = .ref p ∧ H p = none ∧ H' p = some (HO.lst vs) ∧ DpAll K (hid (fun a => W a ∨ a = p) H') vs ds
/-- what is avoided stands there -/
def Wok (W : Addr → Prop) (H : Hp) : Prop := ∀ p, W p → H p ≠ none
section
variable {K : PySem.W.Frag} {W : Addr → Prop} {H : Hp}
theorem ResF.int (i : Int) : ResF K W H H (.int i) (.int i) := ⟨⟨Sub.refl, .int i⟩, fun _ e => by cases e⟩
theorem ResF.str (x : Str) : ResF K W H H (.str x) (.str x) := ⟨⟨Sub.refl, .str x⟩, fun _ e => by cases e⟩
theorem ResF.bl (b : Bool) : ResF K W H H (.bl b) (.bool b) := ⟨⟨Sub.refl, .bl b⟩, fun _ e => by cases e⟩
theorem ResF.non : ResF K W H H .non .none := ⟨⟨Sub.refl, .non⟩, fun _ e => by cases e⟩
theorem ResF.lst {p : Addr} {vs : List V} {ds : List D} (w : Wok W H) (hp : H p = none) (r : DpAll K (hid W H) vs ds) : ResF K W H (upd H p (.lst vs)) (.ref p) (.list ds) := by
  have hs := Sub.upd (o := .lst vs) hp
  refine ⟨⟨hs, .lst (.inl (.inl (hid_some.mpr ⟨fun z => w p z hp, upd_same⟩))) (dpAll_sub (hid_sub hs) ds vs r)⟩, fun es e => ?_⟩
  cases e
  exact ⟨p, vs, rfl, hp, upd_same, dpAll_sub (hid_grow (fun a z => z.elim .inl fun q => .inr (q ▸ hp)) hs) ds vs r⟩
theorem ResF.tup {p : Addr} {vs : List V} {ds : List D} (w : Wok W H) (hp : H p = none) (r : DpAll K (hid W H) vs ds) : ResF K W H (upd H p (.tup vs)) (.ref p) (.tuple ds) := by
  have hs := Sub.upd (o := .tup vs) hp
  exact ⟨⟨hs, .tup (.inl (.inl (hid_some.mpr ⟨fun z => w p z hp, upd_same⟩))) (dpAll_sub (hid_sub hs) ds vs r)⟩, fun es e => by cases e⟩
theorem ResF.same {v : V} {ds : List D} (r : Dp K (hid W H) v (.tuple ds)) : ResF K W H H v (.tuple ds) := ⟨⟨Sub.refl, r⟩, fun es e => by cases e⟩
end
/-- two values in, by their data -/
def rB (K : PySem.W.Frag) (f : D → D → Option D) : R2 := fun x y H Q => ∃ (W : Addr → Prop) (dx dy d : D), Wok W H ∧ Dp K (hid W H) x dx ∧ Dp K (hid W H) y dy ∧ f dx dy = some d ∧ ∀ v H', ResF K W H H' v d → Q v H'
def rB' (K : PySem.W.Frag) (f : D → D → Option D) : R2 := fun x y H Q => ∃ (W : Addr → Prop) (dx dy d : D), Wok W H ∧ Dp K (hid W H) x dx ∧ Dp K (hid W H) y dy ∧ f dx dy = some d ∧ ∀ v H', Res K W H H' v d → Q v H'
def rC (K : PySem.W.Frag) (f : D → D → Option Bool) : R2 := fun x y H Q => ∃ (W : Addr → Prop) (dx dy : D) (b : Bool), Dp K (hid W H) x dx ∧ Dp K (hid W H) y dy ∧ f dx dy = some b ∧ Q (.bl b) H
section
variable {X : Cx}
theorem op_catS : OpR X (binaryOp .Add) (fun x y H Q => ∃ l b xs zs, x = .ref l ∧ y = .ref b ∧ SqL X.K H l xs ∧ SqL X.K H b zs ∧ xs.length + zs.length ≤ sizeLine ∧ ∀ p, H p = none → Q (.ref p) (upd H p (.lst (xs ++ zs)))) := by
  intro pins s σ H x y v u Q I rx ry h
  obtain ⟨l, b, xs, zs, rfl, rfl, hH, hB, hz, q⟩ := h
  cases rx
  cases ry
  obtain ⟨its, r, pl, hl⟩ := I.list hH
  obtain ⟨its2, r2, pl2, hl2⟩ := I.list hB
  have e1 := r.length
  have e2 := r2.length
  obtain ⟨⟨cls, dd, data, sl⟩, ho, hc, n, hd⟩ := pl.isList
  obtain ⟨⟨cls2, dd2, data2, sl2⟩, ho2, hc2, n2, hd2⟩ := pl2.isList
  simp only at hc hd hc2 hd2
  subst hc hd hc2 hd2
  refine concat_meets ⟨_, ho, rfl⟩ ⟨_, ho2, rfl⟩ noFill_list_add seq_list_add PySem.F.slot_list_add PySem.F.entry_list_add (PySem.F.args_list_add_2 _ _)
    (list_addW l b its.toArray its2.toArray n n2 dd dd2 sl sl2 (by rw [List.size_toArray, List.size_toArray]; omega)) ⟨ho, ho2, ?_⟩
  have ea : its.toArray ++ its2.toArray = (its ++ its2).toArray := by simp
  rw [ea]
  exact ⟨.ref _, _, I.lnew (t' := s.toks) (r.append r2) (by rw [List.length_append]; omega), rfl, q _ I.fresh⟩
theorem opD_add : OpR X (binaryOp .Add) (rB X.K opAdd) := by
  intro pins s σ H x y v u Q I rx ry h
  obtain ⟨W, dx, dy, d, w, hx, hy, e, q⟩ := h
  unfold opAdd at e
  split at e
  · cases e
    exact op_add pins s σ H x y v u Q I rx ry ⟨_, _, dp_int hx, dp_int hy, q _ _ (ResF.int _)⟩
  · obtain ⟨b, rfl⟩ := chk_some e
    have b := of_decide_eq_true b
    rw [line_eq] at b
    exact op_add_str pins s σ H x y v u Q I rx ry ⟨_, _, dp_str hx, dp_str hy, b, q _ _ (ResF.str _)⟩
  · obtain ⟨b, rfl⟩ := chk_some e
    have b := of_decide_eq_true b
    rw [line_eq] at b
    obtain ⟨l, xs, ex, sx, ax⟩ := dp_list hx
    obtain ⟨m, ys, ey, sy, ay⟩ := dp_list hy
    refine op_catS pins s σ H x y v u Q I rx ry ⟨l, m, xs, ys, ex, ey, sqL_sub hid_le sx, sqL_sub hid_le sy, by rw [(DpAll.length ax), (DpAll.length ay)]; exact b, fun p hp => q _ _ (ResF.lst w hp (DpAll.append ax ay))⟩
  · obtain ⟨b, rfl⟩ := chk_some e
    have b := of_decide_eq_true b
    rw [line_eq] at b
    obtain ⟨l, xs, ex, sx, ax⟩ := dp_tup hx
    obtain ⟨m, ys, ey, sy, ay⟩ := dp_tup hy
    refine op_catA pins s σ H x y v u Q I rx ry ⟨l, m, xs, ys, ex, ey, sqT_sub hid_le sx, sqT_sub hid_le sy, by rw [(DpAll.length ax), (DpAll.length ay)]; exact b, fun z => ?_, fun _ z => ?_, fun _ _ p hp => q _ _ (ResF.tup w hp (DpAll.append ax ay))⟩
    · subst z
      have z' := (DpAll.length ax)
      have z2 := List.eq_nil_of_length_eq_zero z'.symm
      subst z2
      exact q _ _ (ResF.same (ey ▸ hy))
    · subst z
      have z' := (DpAll.length ay)
      have z2 := List.eq_nil_of_length_eq_zero z'.symm
      subst z2
      rw [List.append_nil] at q
      exact q _ _ (ResF.same (ex ▸ hx))
  · cases e
theorem opD_sub : OpR X (binaryOp .Sub) (rB X.K opSub) := by
  intro pins s σ H x y v u Q I rx ry h
  obtain ⟨W, dx, dy, d, w, hx, hy, e, q⟩ := h
  unfold opSub at e
  split at e
  · cases e
    exact op_sub pins s σ H x y v u Q I rx ry ⟨_, _, dp_int hx, dp_int hy, q _ _ (ResF.int _)⟩
  · cases e
theorem in64_ok {i : Int} (h : in64 i = true) : -(2 ^ 64) < i ∧ i < 2 ^ 64 := by
  obtain ⟨a, b⟩ := and_tt h
  exact ⟨of_decide_eq_true a, of_decide_eq_true b⟩
theorem in62_ok {i : Int} (h : in62 i = true) : -(2 ^ 62) ≤ i ∧ i < 2 ^ 62 := by
  obtain ⟨a, b⟩ := and_tt h
  exact ⟨of_decide_eq_true a, of_decide_eq_true b⟩
theorem repS_zero (k : Nat) (x : Str) (h : x.length = 0) : repS k x = Str.empty := by
  have hx : x.cps.toList = [] := List.eq_nil_of_length_eq_zero (by simpa [Str.length] using h)
  unfold repS
  rw [hx]
  have : (List.replicate k ([] : List Nat)).flatten = [] := by
    induction k with
    | zero => rfl
    | succ k ih => rw [List.replicate_succ, List.flatten_cons, ih]; rfl
  rw [this]
  rfl
theorem foldl_arr (a : Array Nat) : ∀ (k : Nat) (acc : Array Nat), (List.replicate k a).foldl (· ++ ·) acc = acc ++ ((List.replicate k a.toList).flatten).toArray
  | 0, acc => by simp
  | k + 1, acc => by
    rw [List.replicate_succ, List.foldl_cons, foldl_arr a k, List.replicate_succ, List.flatten_cons]
    apply Array.ext'
    simp
theorem op_mul_str : OpR X (binaryOp .Mult) (fun x y H Q => ∃ z k, x = .str z ∧ y = .int k ∧ (-(2 ^ 62) ≤ k ∧ k < 2 ^ 62) ∧ z.length * k.toNat ≤ sizeLine ∧ Q (.str (repS k.toNat z)) H) := by
  intro pins s σ H x y v u Q I rx ry h
  obtain ⟨z, k, rfl, rfl, ⟨k1, k2⟩, hz, q⟩ := h
  obtain ⟨t, rfl⟩ := rx
  obtain ⟨t', rfl⟩ := ry
  have hl : sizeLine = 16777216 := sizeLine_eq
  have big : ¬ k < 1 → (k == 1 || z.length == 0) = false → 1 < k ∧ 0 < z.length := fun h1 h2 => by
    rw [Bool.or_eq_false_iff] at h2
    have a : k ≠ 1 := by simpa using h2.1
    have b : z.length ≠ 0 := by simpa using h2.2
    omega
  refine PySem.P.mul_str (by
      have e1 : decide (k < -(2 ^ 63 : Int)) = false := decide_eq_false (by omega)
      have e2 : decide (k ≥ (2 ^ 63 : Int)) = false := decide_eq_false (by omega)
      rw [e1, e2] <;> rfl) (fun h1 h2 => ?_) (fun h1 h2 => ?_) ?_
  · obtain ⟨b1, b2⟩ := big h1 h2
    have hk : (k.toNat : Int) = k := Int.toNat_of_nonneg (by omega)
    have hz2 : z.length * k.toNat ≤ 16777216 := by rw [← hl]; exact hz
    have hz' : (z.length : Int) * k ≤ 16777216 := by
      rw [← hk]
      have := Int.ofNat_le.mpr hz2
      rw [Int.natCast_mul] at this
      exact this
    intro hgt
    have h3 : (2 ^ 63 - 1 : Int) / k < z.length := hgt
    have h4 : (2 ^ 63 - 1 : Int) < z.length * k := by
      have := (Int.ediv_lt_iff_lt_mul (by omega : 0 < k)).mp h3
      exact this
    omega
  · have hz2 : z.length * k.toNat ≤ sizeLine := hz
    exact decide_eq_false (Nat.not_lt.mpr hz2)
  · by_cases h1 : k < 1
    · rw [if_pos h1]
      have hk : k.toNat = 0 := by omega
      rw [hk] at q
      have e : repS 0 z = Str.empty := rfl
      rw [e] at q
      exact ⟨by decide, .str _, H, I.tok _, ⟨_, rfl⟩, q⟩
    · rw [if_neg h1]
      by_cases h2 : (k == 1 || z.length == 0) = true
      · rw [if_pos h2]
        rw [Bool.or_eq_true] at h2
        have e : repS k.toNat z = z := by
          rcases h2 with h2 | h2
          · have hk : k = 1 := by simpa using h2
            subst hk
            unfold repS
            simp
          · have hz0 : z.length = 0 := by simpa using h2
            rw [repS_zero _ _ hz0]
            have hx : z.cps = #[] := Array.eq_empty_of_size_eq_zero hz0
            cases z
            simp only at hx
            subst hx
            rfl
        rw [e] at q
        exact ⟨.str z, H, I, ⟨t, rfl⟩, q⟩
      · rw [if_neg h2]
        have e : (⟨(List.replicate k.toNat z.cps).foldl (· ++ ·) #[]⟩ : Str) = repS k.toNat z := by
          rw [foldl_arr]
          unfold repS
          simp
        rw [e]
        refine ⟨?_, .str _, H, I.tok _, ⟨_, rfl⟩, q⟩
        show (repS k.toNat z).cps.size ≤ sizeLine
        unfold repS
        rw [List.size_toArray]
        have : ((List.replicate k.toNat z.cps.toList).flatten).length = k.toNat * z.cps.toList.length := by
          simp
        rw [this, Array.length_toList, Nat.mul_comm]
        exact hz
theorem opD_mul : OpR X (binaryOp .Mult) (rB X.K opMul) := by
  intro pins s σ H x y v u Q I rx ry h
  obtain ⟨W, dx, dy, d, w, hx, hy, e, q⟩ := h
  unfold opMul at e
  split at e
  · obtain ⟨b, rfl⟩ := chk_some e
    have c : CMul _ _ := (Bool.or_eq_true_iff.mp b).elim (fun z => .inl (in64_ok z)) fun z => .inr (in64_ok z)
    exact op_mul pins s σ H x y v u Q I rx ry ⟨_, _, dp_int hx, dp_int hy, c, q _ _ (ResF.int _)⟩
  · obtain ⟨b, rfl⟩ := chk_some e
    obtain ⟨b1, b2⟩ := and_tt b
    have b2 := of_decide_eq_true b2
    rw [line_eq] at b2
    exact op_mul_str pins s σ H x y v u Q I rx ry ⟨_, _, dp_str hx, dp_int hy, in62_ok b1, b2, q _ _ (ResF.str _)⟩
  · cases e
theorem opD_mod : OpR X (binaryOp .Mod) (rB X.K opMod) := by
  intro pins s σ H x y v u Q I rx ry h
  obtain ⟨W, dx, dy, d, w, hx, hy, e, q⟩ := h
  unfold opMod at e
  split at e
  · obtain ⟨b, rfl⟩ := chk_some e
    exact op_mod pins s σ H x y v u Q I rx ry ⟨_, _, dp_int hx, dp_int hy, of_decide_eq_true b, q _ _ (ResF.int _)⟩
  · cases e
theorem opD_div : OpR X (binaryOp .FloorDiv) (rB X.K opDiv) := by
  intro pins s σ H x y v u Q I rx ry h
  obtain ⟨W, dx, dy, d, w, hx, hy, e, q⟩ := h
  unfold opDiv at e
  split at e
  · obtain ⟨b, rfl⟩ := chk_some e
    obtain ⟨b1, b2⟩ := and_tt b
    exact op_fdiv pins s σ H x y v u Q I rx ry ⟨_, _, dp_int hx, dp_int hy, ⟨of_decide_eq_true b1, of_decide_eq_true b2⟩, q _ _ (ResF.int _)⟩
  · cases e
theorem opD_pow : OpR X (binaryOp .Pow) (rB X.K opPow) := by
  intro pins s σ H x y v u Q I rx ry h
  obtain ⟨W, dx, dy, d, w, hx, hy, e, q⟩ := h
  unfold opPow at e
  split at e
  · obtain ⟨b, rfl⟩ := chk_some e
    obtain ⟨b12, b3⟩ := and_tt b
    obtain ⟨b1, b2⟩ := and_tt b12
    exact op_pow pins s σ H x y v u Q I rx ry ⟨_, _, dp_int hx, dp_int hy, ⟨of_decide_eq_true b1, of_decide_eq_true b2, of_decide_eq_true b3⟩, q _ _ (ResF.int _)⟩
  · cases e
theorem opD (op : Operator) : OpR X (binaryOp op) (rB X.K (binOp op)) := by
  cases op with
  | Add => exact opD_add
  | Sub => exact opD_sub
  | Mult => exact opD_mul
  | Mod => exact opD_mod
  | FloorDiv => exact opD_div
  | Pow => exact opD_pow
  | _ => intro pins s σ H x y v u Q I rx ry h; obtain ⟨W, dx, dy, d, w, hx, hy, e, q⟩ := h; exact nomatch (show (none : Option D) = some d from e)
end
end Dl

set_option maxRecDepth 100000
set_option maxHeartbeats 2000000
/-! Comparisons, items, slices, built-in functions by data. -/
namespace Dl
open PySem PySem.Spec L2
open PyProof.Rows hiding St

theorem dp_le {K : PySem.W.Frag} {W : Addr → Prop} {H : Hp} {v : V} {d : D} (h : Dp K (hid W H) v d) : Dp K H v d := dp_sub hid_le d v h
theorem dpAll_le {K : PySem.W.Frag} {W : Addr → Prop} {H : Hp} {vs : List V} {ds : List D} (h : DpAll K (hid W H) vs ds) : DpAll K H vs ds := dpAll_sub hid_le ds vs h
section
variable {X : Cx}
theorem cmpI_ok {op : CmpOp} {f : Int → Int → Bool} (ho : OpR X (compareOp op) (rI0 fun i j => .bl (f i j))) : OpR X (compareOp op) (rC X.K (cmpI f)) := by
  intro pins s σ H x y v u Q I rx ry h
  obtain ⟨W, dx, dy, b, hx, hy, e, q⟩ := h
  unfold cmpI at e
  split at e
  · cases e
    exact ho pins s σ H x y v u Q I rx ry ⟨_, _, dp_int hx, dp_int hy, q⟩
  · cases e
theorem shp2 {d e : D} {b r : Bool} (h : (match shp d && shp e with | true => some r | false => none) = some b) : SeqAt.shaped d = true ∧ SeqAt.shaped e = true ∧ r = b := by
  cases q : shp d && shp e with
  | true => rw [q] at h; exact ⟨(and_tt q).1, (and_tt q).2, Option.some.inj h⟩
  | false => rw [q] at h; cases h
theorem room_in_D {A : Around} {xs : List PyData} {d : PyData} (h : SeqAt.shaped d = true) (hu : A.units + 65 < cLine) : A.units + 1 + min (PyData.depthAll xs) d.depth < cLine := by
  have := SeqAt.depth_of_shaped h
  have : min (PyData.depthAll xs) d.depth ≤ d.depth := Nat.min_le_right _ _
  omega
theorem op_inT (hu : X.A.units + 65 < cLine) : OpR X (compareOp .In) (fun x y H Q => ∃ d ds, Dp X.K H x d ∧ Dp X.K H y (.tuple ds) ∧ SeqAt.shaped d = true ∧ SeqAt.shaped (.tuple ds) = true ∧ Q (.bl (ds.any fun z => PyData.eqv z d)) H) := by
  intro pins s σ H x y v u Q I rx ry h
  obtain ⟨d, ds, hd, he, sd, se, q⟩ := h
  obtain ⟨as, r1⟩ := Dp.reads I d x v hd rx
  obtain ⟨bs, r2⟩ := Dp.reads I (.tuple ds) y u he ry
  exact SeqAt.in_tuple_reads r2 r1 (SeqAt.canLay_of_shaped se) (SeqAt.canLay_of_shaped sd) (room_in_D sd hu) ⟨.bl _, H, I, rfl, q⟩
theorem op_notInT (hu : X.A.units + 65 < cLine) : OpR X (compareOp .NotIn) (fun x y H Q => ∃ d ds, Dp X.K H x d ∧ Dp X.K H y (.tuple ds) ∧ SeqAt.shaped d = true ∧ SeqAt.shaped (.tuple ds) = true ∧ Q (.bl (!ds.any fun z => PyData.eqv z d)) H) := by
  intro pins s σ H x y v u Q I rx ry h
  obtain ⟨d, ds, hd, he, sd, se, q⟩ := h
  obtain ⟨as, r1⟩ := Dp.reads I d x v hd rx
  obtain ⟨bs, r2⟩ := Dp.reads I (.tuple ds) y u he ry
  exact SeqAt.notIn_tuple_reads r2 r1 (SeqAt.canLay_of_shaped se) (SeqAt.canLay_of_shaped sd) (room_in_D sd hu) ⟨.bl _, H, I, rfl, q⟩
theorem isNone_eq {K : PySem.W.Frag} {H : Hp} {v : V} : ∀ {d : D}, Dp K H v d → decide (v = V.non) = isNone d
  | .none, h => by cases h; rfl
  | .bool _, h => by cases h; rfl
  | .int _, h => by cases h; rfl
  | .str _, h => by cases h; rfl
  | .list _, h => by cases h; rfl
  | .tuple _, h => by cases h; rfl
  | .dict _, h => by cases h
theorem isNone_non {K : PySem.W.Frag} {H : Hp} {v : V} {d : D} (h : Dp K H v d) (e : isNone d = true) : v = .non := by
  have := isNone_eq h
  rw [e] at this
  exact of_decide_eq_true this
theorem opC (hu : X.A.units + 200 < cLine) (op : CmpOp) : OpR X (compareOp op) (rC X.K (cmpOp op)) := by
  cases op with
  | Eq =>
    intro pins s σ H x y v u Q I rx ry h
    obtain ⟨W, dx, dy, b, hx, hy, e, q⟩ := h
    obtain ⟨s1, s2, rfl⟩ := shp2 e
    exact op_eqD (by omega) pins s σ H x y v u Q I rx ry ⟨dx, dy, dp_le hx, dp_le hy, s1, s2, q⟩
  | NotEq =>
    intro pins s σ H x y v u Q I rx ry h
    obtain ⟨W, dx, dy, b, hx, hy, e, q⟩ := h
    obtain ⟨c, e2, rfl⟩ := Option.map_eq_some_iff.mp e
    obtain ⟨s1, s2, rfl⟩ := shp2 e2
    exact op_neD (by omega) pins s σ H x y v u Q I rx ry ⟨dx, dy, dp_le hx, dp_le hy, s1, s2, q⟩
  | Lt => exact cmpI_ok op_lt
  | LtE => exact cmpI_ok op_le
  | Gt => exact cmpI_ok op_gt
  | GtE => exact cmpI_ok op_ge
  | In =>
    intro pins s σ H x y v u Q I rx ry h
    obtain ⟨W, dx, dy, b, hx, hy, e, q⟩ := h
    have e : opIn dx dy = some b := e
    cases dy with
    | list ds =>
      obtain ⟨s1, s2, rfl⟩ := shp2 e
      exact op_inD (by omega) pins s σ H x y v u Q I rx ry ⟨dx, ds, dp_le hx, dp_le hy, s1, s2, q⟩
    | tuple ds =>
      obtain ⟨s1, s2, rfl⟩ := shp2 e
      exact op_inT (by omega) pins s σ H x y v u Q I rx ry ⟨dx, ds, dp_le hx, dp_le hy, s1, s2, q⟩
    | _ => cases e
  | NotIn =>
    intro pins s σ H x y v u Q I rx ry h
    obtain ⟨W, dx, dy, b, hx, hy, e, q⟩ := h
    obtain ⟨c, e2, rfl⟩ := Option.map_eq_some_iff.mp e
    clear e
    cases dy with
    | list ds =>
      obtain ⟨s1, s2, rfl⟩ := shp2 e2
      exact op_notInD (by omega) pins s σ H x y v u Q I rx ry ⟨dx, ds, dp_le hx, dp_le hy, s1, s2, q⟩
    | tuple ds =>
      obtain ⟨s1, s2, rfl⟩ := shp2 e2
      exact op_notInT (by omega) pins s σ H x y v u Q I rx ry ⟨dx, ds, dp_le hx, dp_le hy, s1, s2, q⟩
    | _ => cases e2
  | Is =>
    intro pins s σ H x y v u Q I rx ry h
    obtain ⟨W, dx, dy, b, hx, hy, e, q⟩ := h
    have e : (match isNone dy with | true => some (isNone dx) | false => none) = some b := e
    cases z : isNone dy with
    | false => rw [z] at e; cases e
    | true =>
      rw [z] at e
      cases e
      exact op_isN pins s σ H x y v u Q I rx ry ⟨isNone_non hy z, by rw [isNone_eq hx]; exact q⟩
  | IsNot =>
    intro pins s σ H x y v u Q I rx ry h
    obtain ⟨W, dx, dy, b, hx, hy, e, q⟩ := h
    have e : (match isNone dy with | true => some (!isNone dx) | false => none) = some b := e
    cases z : isNone dy with
    | false => rw [z] at e; cases e
    | true =>
      rw [z] at e
      cases e
      exact op_notN pins s σ H x y v u Q I rx ry ⟨isNone_non hy z, by rw [isNone_eq hx]; exact q⟩

/-! ### items, slices -/
theorem DpAll.atI {K : PySem.W.Frag} {H : Hp} {vs : List V} {ds : List D} {i : Int} {d : D} (r : DpAll K H vs ds) (h : L2.atI ds i = some d) : ∃ v, L2.atI vs i = some v ∧ Dp K H v d := by
  unfold L2.atI at h ⊢
  rw [DpAll.length r]
  cases e : ixN ds.length i with
  | none => rw [e] at h; cases h
  | some j =>
    rw [e] at h
    exact DpAll.get r (show ds[j]? = some d from h)
def rI1 (K : PySem.W.Frag) (f : D → D → Option D) : R2 := rB' K f
theorem ixD : IxR X (rB' X.K item) := by
  intro value slc pins s σ H x y v u Q I rx ry h hs
  obtain ⟨W, dx, dy, d, w, hx, hy, e, q⟩ := h
  unfold item at e
  split at e
  · obtain ⟨a, xs, ex, sx, ax⟩ := dp_list hx
    obtain ⟨z, hz, rz⟩ := DpAll.atI ax e
    exact ix_list value slc pins s σ H x y v u Q I rx ry ⟨a, xs, _, z, ex, dp_int hy, sqL_sub hid_le sx, hz, q _ _ ⟨Sub.refl, rz⟩⟩ hs
  · obtain ⟨a, xs, ex, sx, ax⟩ := dp_tup hx
    obtain ⟨z, hz, rz⟩ := DpAll.atI ax e
    exact ix_tup value slc pins s σ H x y v u Q I rx ry ⟨a, xs, _, z, ex, dp_int hy, sqT_sub hid_le sx, hz, q _ _ ⟨Sub.refl, rz⟩⟩ hs
  · split at e
    · rename_i hl
      have hl := of_decide_eq_true hl
      rw [line_eq] at hl
      obtain ⟨c, hc, rfl⟩ := Option.map_eq_some_iff.mp e
      exact ix_str value slc pins s σ H x y v u Q I rx ry ⟨_, _, c, dp_str hx, dp_int hy, hl, hc, q _ _ ⟨Sub.refl, .str _⟩⟩ hs
    · cases e
  · cases e
def rS (K : PySem.W.Frag) : V → Option Int → Option Int → Hp → VK → Prop := fun x lo hi H Q => ∃ (W : Addr → Prop) (dx d : D), Wok W H ∧ Dp K (hid W H) x dx ∧ slice dx lo hi = some d ∧ ∀ v H', ResF K W H H' v d → Q v H'
theorem DpAll.cut {K : PySem.W.Frag} {H : Hp} {vs : List V} {ds : List D} {lo hi : Option Int} (r : DpAll K H vs ds) : DpAll K H (cutV vs lo hi) (cutD ds lo hi) := by
  unfold cutV cutD
  rw [DpAll.length r]
  exact DpAll.take _ (DpAll.drop _ r)
theorem slD : SlR X (rS X.K) := by
  intro pins s σ H x v vl vu lo hi sl Q I rx hs pl pu h
  obtain ⟨W, dx, d, w, hx, e, q⟩ := h
  cases dx with
  | list ds =>
    cases e
    obtain ⟨a, xs, ex, sx, ax⟩ := dp_list hx
    exact sl_list pins s σ H x v vl vu lo hi sl Q I rx hs pl pu ⟨a, xs, ex, sqL_sub hid_le sx, fun p hp => q _ _ (ResF.lst w hp (DpAll.cut ax))⟩
  | tuple ds =>
    cases e
    obtain ⟨a, xs, ex, sx, ax⟩ := dp_tup hx
    refine sl_tupA pins s σ H x v vl vu lo hi sl Q I rx hs pl pu ⟨a, xs, ex, sqT_sub hid_le sx, fun z => ?_, fun _ p hp => q _ _ (ResF.tup w hp (DpAll.cut ax))⟩
    have e1 := DpAll.length ax
    rw [e1] at z
    have ec : cutD ds lo hi = ds := by
      unfold cutD
      rw [z.1, z.2]
      simp
    rw [ec] at q
    exact q _ _ (ResF.same (ex ▸ hx))
  | str z =>
    have e : (match decide (z.length ≤ line) with | true => some (PyData.str (cutS z lo hi)) | false => none) = some d := e
    cases hl : decide (z.length ≤ line) with
    | false => rw [hl] at e; cases e
    | true =>
      rw [hl] at e
      have hl := of_decide_eq_true hl
      rw [line_eq] at hl
      cases e
      exact sl_str pins s σ H x v vl vu lo hi sl Q I rx hs pl pu ⟨_, dp_str hx, hl, q _ _ (ResF.str _)⟩
  | _ => cases e

/-! ### truth -/
theorem truD {K : PySem.W.Frag} {H : Hp} {v : V} {d : D} {b : Bool} (h : Dp K H v d) (e : truth d = some b) : TruV K v H b := by
  cases d with
  | none => cases e; rw [dp_none h]; exact rfl
  | bool k => cases e; rw [dp_bool h]; exact rfl
  | int i => cases e; rw [dp_int h]; exact rfl
  | str x =>
    have e : (match decide (x.length ≤ line) with | true => some (x.length != 0) | false => none) = some b := e
    cases hl : decide (x.length ≤ line) with
    | false => rw [hl] at e; cases e
    | true =>
      rw [hl] at e
      have hl := of_decide_eq_true hl
      rw [line_eq] at hl
      cases e
      rw [dp_str h]
      refine ⟨hl, ?_⟩
      cases q : x.length with
      | zero => rfl
      | succ n =>
        have a : ((n + 1 : Nat) : Int) ≠ 0 := by omega
        rw [show (n + 1 != 0) = true from by simp, show (((n + 1 : Nat) : Int) != 0) = true from by simpa using a]
  | list ds =>
    cases e
    obtain ⟨a, xs, ex, sx, ax⟩ := dp_list h
    rw [ex]
    refine .inl ⟨xs, sx, ?_⟩
    cases ax <;> rfl
  | tuple ds =>
    cases e
    obtain ⟨a, xs, ex, sx, ax⟩ := dp_tup h
    rw [ex]
    refine .inr (.inl ⟨xs, sx, ?_⟩)
    cases ax <;> rfl
  | dict _ => cases e

/-! ### built-in functions of one value -/
def rF (K : PySem.W.Frag) (f : D → Option D) : List V → Hp → VK → Prop := fun vs H Q => ∃ (W : Addr → Prop) (x : V) (dx d : D), vs = [x] ∧ Wok W H ∧ Dp K (hid W H) x dx ∧ f dx = some d ∧ ∀ v H', ResF K W H H' v d → Q v H'
def rF2 (K : PySem.W.Frag) (f : D → D → Option D) : List V → Hp → VK → Prop := fun vs H Q => ∃ (W : Addr → Prop) (x y : V) (dx dy d : D), vs = [x, y] ∧ Wok W H ∧ Dp K (hid W H) x dx ∧ Dp K (hid W H) y dy ∧ f dx dy = some d ∧ ∀ v H', ResF K W H H' v d → Q v H'
theorem ints_vals {K : PySem.W.Frag} {H : Hp} : ∀ {ds : List D} {vs : List V} {ns : List Int}, DpAll K H vs ds → ints? ds = some ns → vs = ns.map V.int
  | [], _, _, h, e => by cases h; cases e; rfl
  | .int i :: r, _, _, h, e => by
    cases h with
    | cons h1 h2 =>
      obtain ⟨ms, e1, rfl⟩ := Option.map_eq_some_iff.mp (show (ints? r).map (i :: ·) = some _ from e)
      rw [dp_int h1, ints_vals h2 e1]
      rfl
  | .none :: _, _, _, _, e => nomatch (show (none : Option (List Int)) = some _ from e)
  | .bool _ :: _, _, _, _, e => nomatch (show (none : Option (List Int)) = some _ from e)
  | .str _ :: _, _, _, _, e => nomatch (show (none : Option (List Int)) = some _ from e)
  | .list _ :: _, _, _, _, e => nomatch (show (none : Option (List Int)) = some _ from e)
  | .tuple _ :: _, _, _, _, e => nomatch (show (none : Option (List Int)) = some _ from e)
  | .dict _ :: _, _, _, _, e => nomatch (show (none : Option (List Int)) = some _ from e)
theorem bools_vals {K : PySem.W.Frag} {H : Hp} : ∀ {ds : List D} {vs : List V} {ns : List Bool}, DpAll K H vs ds → bools? ds = some ns → vs = ns.map V.bl
  | [], _, _, h, e => by cases h; cases e; rfl
  | .bool i :: r, _, _, h, e => by
    cases h with
    | cons h1 h2 =>
      obtain ⟨ms, e1, rfl⟩ := Option.map_eq_some_iff.mp (show (bools? r).map (i :: ·) = some _ from e)
      rw [dp_bool h1, bools_vals h2 e1]
      rfl
  | .none :: _, _, _, _, e => nomatch (show (none : Option (List Bool)) = some _ from e)
  | .int _ :: _, _, _, _, e => nomatch (show (none : Option (List Bool)) = some _ from e)
  | .str _ :: _, _, _, _, e => nomatch (show (none : Option (List Bool)) = some _ from e)
  | .list _ :: _, _, _, _, e => nomatch (show (none : Option (List Bool)) = some _ from e)
  | .tuple _ :: _, _, _, _, e => nomatch (show (none : Option (List Bool)) = some _ from e)
  | .dict _ :: _, _, _, _, e => nomatch (show (none : Option (List Bool)) = some _ from e)
theorem strs_vals {K : PySem.W.Frag} {H : Hp} : ∀ {ds : List D} {vs : List V} {ns : List Str}, DpAll K H vs ds → strs? ds = some ns → vs = ns.map V.str
  | [], _, _, h, e => by cases h; cases e; rfl
  | .str i :: r, _, _, h, e => by
    cases h with
    | cons h1 h2 =>
      obtain ⟨ms, e1, rfl⟩ := Option.map_eq_some_iff.mp (show (strs? r).map (i :: ·) = some _ from e)
      rw [dp_str h1, strs_vals h2 e1]
      rfl
  | .none :: _, _, _, _, e => nomatch (show (none : Option (List Str)) = some _ from e)
  | .int _ :: _, _, _, _, e => nomatch (show (none : Option (List Str)) = some _ from e)
  | .bool _ :: _, _, _, _, e => nomatch (show (none : Option (List Str)) = some _ from e)
  | .list _ :: _, _, _, _, e => nomatch (show (none : Option (List Str)) = some _ from e)
  | .tuple _ :: _, _, _, _, e => nomatch (show (none : Option (List Str)) = some _ from e)
  | .dict _ :: _, _, _, _, e => nomatch (show (none : Option (List Str)) = some _ from e)
theorem fn_len : CallR X (.builtin "len") (rF X.K opLen) := by
  intro pins s σ H vs us Q I r h
  obtain ⟨W, x, dx, d, rfl, w, hx, e, q⟩ := h
  unfold opLen at e
  split at e
  · cases e
    obtain ⟨a, xs, ex, sx, ax⟩ := dp_list hx
    rw [← DpAll.length ax] at q
    exact call_len pins s σ H _ us Q I r ⟨x, xs.length, rfl, by rw [ex]; exact .inl ⟨xs, sqL_sub hid_le sx, rfl⟩, q _ _ (ResF.int _)⟩
  · cases e
    obtain ⟨a, xs, ex, sx, ax⟩ := dp_tup hx
    rw [← DpAll.length ax] at q
    exact call_len pins s σ H _ us Q I r ⟨x, xs.length, rfl, by rw [ex]; exact .inr ⟨xs, sqT_sub hid_le sx, rfl⟩, q _ _ (ResF.int _)⟩
  · obtain ⟨b, rfl⟩ := chk_some e
    have b := of_decide_eq_true b
    rw [line_eq] at b
    exact call_len pins s σ H _ us Q I r ⟨x, _, rfl, by rw [dp_str hx]; exact ⟨b, rfl⟩, q _ _ (ResF.int _)⟩
  · cases e
theorem fn_abs : CallR X (.builtin "abs") (rF X.K opAbs) := by
  intro pins s σ H vs us Q I r h
  obtain ⟨W, x, dx, d, rfl, w, hx, e, q⟩ := h
  unfold opAbs at e
  split at e
  · cases e
    exact call_abs pins s σ H _ us Q I r ⟨_, by rw [dp_int hx], q _ _ (ResF.int _)⟩
  · cases e
theorem fn_int : CallR X (.type "int") (rF X.K opInt) := by
  intro pins s σ H vs us Q I r h
  obtain ⟨W, x, dx, d, rfl, w, hx, e, q⟩ := h
  unfold opInt at e
  split at e
  · cases e
    exact call_int1 pins s σ H _ us Q I r (.inl ⟨_, by rw [dp_int hx], q _ _ (ResF.int _)⟩)
  · cases e
    exact call_int1 pins s σ H _ us Q I r (.inr ⟨_, by rw [dp_bool hx], q _ _ (ResF.int _)⟩)
  · cases e
theorem chars_vals {K : PySem.W.Frag} {H : Hp} (z : Str) : DpAll K H (z.cps.toList.map fun c => V.str ⟨#[c]⟩) (chars z) := by
  unfold chars
  induction z.cps.toList with
  | nil => exact .nil
  | cons c r ih => exact .cons (.str _) ih
theorem vals_at : ∀ {xs : List V} {us : List Value}, xs.length = us.length → (∀ (j : Nat) (x : V) (u : Value), xs[j]? = some x → us[j]? = some u → RelV x u) → Vals xs us
  | [], [], _, _ => .nil
  | [], _ :: _, h, _ => by simp at h
  | _ :: _, [], h, _ => by simp at h
  | x :: xs, u :: us, h, f => .cons (f 0 x u rfl rfl) (vals_at (by simpa using h) fun j y w e1 e2 => f (j + 1) y w (by simpa using e1) (by simpa using e2))
theorem vals_signs {z : Str} {acc : Array Value} (h : ItemsOf (SignAt z) acc z.cps.size) : Vals (z.cps.toList.map fun c => V.str ⟨#[c]⟩) acc.toList := by
  obtain ⟨hs, hi⟩ := h
  refine vals_at (by rw [List.length_map, Array.length_toList, Array.length_toList]; exact hs.symm) fun j x u e1 e2 => ?_
  rw [Array.getElem?_toList] at e2
  obtain ⟨c, t, h1, rfl⟩ := hi j u e2
  rw [List.getElem?_map, Array.getElem?_toList, h1] at e1
  cases e1
  exact ⟨t, rfl⟩
theorem fn_list (hc : X.calm = true) : CallR X (.type "list") (rF X.K opList) := by
  intro pins s σ H vs us Q I r h
  obtain ⟨W, x, dx, d, rfl, w, hx, e, q⟩ := h
  cases dx with
  | list ds =>
    cases e
    obtain ⟨a, xs, ex, sx, ax⟩ := dp_list hx
    exact call_list_of pins s σ H _ us Q I r ⟨a, xs, by rw [ex], .inl (sqL_sub hid_le sx), fun p hp => q _ _ (ResF.lst w hp ax)⟩
  | tuple ds =>
    cases e
    obtain ⟨a, xs, ex, sx, ax⟩ := dp_tup hx
    exact call_list_of pins s σ H _ us Q I r ⟨a, xs, by rw [ex], .inr (sqT_sub hid_le sx), fun p hp => q _ _ (ResF.lst w hp ax)⟩
  | str z =>
    obtain ⟨b, rfl⟩ := chk_some (show chk _ _ = some d from e)
    have b := of_decide_eq_true b
    rw [line_eq] at b
    rw [dp_str hx] at r
    obtain ⟨u, rfl, t, rfl⟩ := vals1 r
    refine PySem.call_list_str (I.ok.hd hc) z t (fun h' tk acc' c' hk hl ha => ?_) b
    have hv := vals_signs ha
    have I2 : Inv X pins σ (upd H s.heap.objs.size (.lst (z.cps.toList.map fun c => V.str ⟨#[c]⟩))) { s with heap := h', toks := tk } :=
      I.laid hk (Nat.le_refl _) ⟨by rw [List.length_map, Array.length_toList]; exact b, acc'.toList, c', hv, by simpa using hl⟩
    exact ⟨.ref s.heap.objs.size, _, I2, rfl, q _ _ (ResF.lst w (I.hok.fresh (Nat.le_refl _)) (chars_vals z))⟩
  | _ => cases e
theorem fn_tuple (hc : X.calm = true) : CallR X (.type "tuple") (rF X.K opTuple) := by
  intro pins s σ H vs us Q I r h
  obtain ⟨W, x, dx, d, rfl, w, hx, e, q⟩ := h
  cases dx with
  | list ds =>
    cases e
    obtain ⟨a, xs, ex, sx, ax⟩ := dp_list hx
    exact call_tuple_of pins s σ H _ us Q I r ⟨a, xs, by rw [ex], .inl ⟨sqL_sub hid_le sx, fun p hp => q _ _ (ResF.tup w hp ax)⟩⟩
  | tuple ds =>
    cases e
    obtain ⟨a, xs, ex, sx, ax⟩ := dp_tup hx
    exact call_tuple_of pins s σ H _ us Q I r ⟨a, xs, by rw [ex], .inr ⟨sqT_sub hid_le sx, q _ _ (ResF.same (ex ▸ hx))⟩⟩
  | str z =>
    obtain ⟨b, rfl⟩ := chk_some (show chk _ _ = some d from e)
    have b := of_decide_eq_true b
    rw [line_eq] at b
    rw [dp_str hx] at r
    obtain ⟨u, rfl, t, rfl⟩ := vals1 r
    refine PySem.call_tuple_str (I.ok.hd hc) z t (fun h' tk acc hk ha => ?_) b
    have hv := vals_signs ha
    have I1 : Inv X pins σ H { s with heap := h', toks := tk } := I.kept hk
    have I2 : Inv X pins σ (upd H h'.objs.size (.tup (z.cps.toList.map fun c => V.str ⟨#[c]⟩))) { s with heap := h'.push { cls := .type "tuple", data := .seq acc }, toks := tk } :=
      I1.laid (fun b o e => Heap.get?_push_of_some _ e) (Nat.le_refl _) ⟨by rw [List.length_map, Array.length_toList]; exact b, acc.toList, hv, by simpa using IsTup.new h' acc⟩
    exact ⟨.ref h'.objs.size, _, I2, rfl, q _ _ (ResF.tup w (I1.hok.fresh (Nat.le_refl _)) (chars_vals z))⟩
  | _ => cases e
theorem fn_sum (hc : X.calm = true) : CallR X (.builtin "sum") (rF X.K opSum) := by
  intro pins s σ H vs us Q I r h
  obtain ⟨W, x, dx, d, rfl, w, hx, e, q⟩ := h
  unfold opSum at e
  split at e
  · obtain ⟨ns, e1, rfl⟩ := Option.map_eq_some_iff.mp e
    obtain ⟨a, xs, ex, sx, ax⟩ := dp_list hx
    rw [ints_vals ax e1] at sx
    exact cr_sum hc pins s σ H _ us Q I r ⟨a, ns, by rw [ex], sqL_sub hid_le sx, q _ _ (ResF.int _)⟩
  · cases e
theorem fn_any (hc : X.calm = true) : CallR X (.builtin "any") (rF X.K opAny) := by
  intro pins s σ H vs us Q I r h
  obtain ⟨W, x, dx, d, rfl, w, hx, e, q⟩ := h
  unfold opAny at e
  split at e
  · obtain ⟨ns, e1, rfl⟩ := Option.map_eq_some_iff.mp e
    obtain ⟨a, xs, ex, sx, ax⟩ := dp_list hx
    rw [bools_vals ax e1] at sx
    exact cr_any hc pins s σ H _ us Q I r ⟨a, ns, by rw [ex], sqL_sub hid_le sx, q _ _ (ResF.bl _)⟩
  · cases e
theorem fn_all (hc : X.calm = true) : CallR X (.builtin "all") (rF X.K opAll) := by
  intro pins s σ H vs us Q I r h
  obtain ⟨W, x, dx, d, rfl, w, hx, e, q⟩ := h
  unfold opAll at e
  split at e
  · obtain ⟨ns, e1, rfl⟩ := Option.map_eq_some_iff.mp e
    obtain ⟨a, xs, ex, sx, ax⟩ := dp_list hx
    rw [bools_vals ax e1] at sx
    exact cr_all hc pins s σ H _ us Q I r ⟨a, ns, by rw [ex], sqL_sub hid_le sx, q _ _ (ResF.bl _)⟩
  · cases e
theorem least_ok : ∀ (r : List Int) (m : Int), least m r ∈ m :: r ∧ ∀ y ∈ m :: r, least m r ≤ y
  | [], m => ⟨by simp [least], fun y h => by simp [least] at h ⊢; omega⟩
  | x :: r, m => by
    unfold least
    by_cases c : x < m
    · rw [if_pos c]
      obtain ⟨h1, h2⟩ := least_ok r x
      refine ⟨List.mem_cons_of_mem _ h1, fun y hy => ?_⟩
      have h0 := h2 x List.mem_cons_self
      rcases List.mem_cons.mp hy with z | z
      · subst z; omega
      · exact h2 y z
    · rw [if_neg c]
      obtain ⟨h1, h2⟩ := least_ok r m
      refine ⟨?_, fun y hy => ?_⟩
      · rcases List.mem_cons.mp h1 with z | z
        · rw [z]; exact List.mem_cons_self
        · exact List.mem_cons_of_mem _ (List.mem_cons_of_mem _ z)
      · have h0 := h2 m List.mem_cons_self
        rcases List.mem_cons.mp hy with z | z
        · subst z; exact h0
        · rcases List.mem_cons.mp z with z | z
          · subst z; omega
          · exact h2 y (List.mem_cons_of_mem _ z)
theorem most_ok : ∀ (r : List Int) (m : Int), most m r ∈ m :: r ∧ ∀ y ∈ m :: r, y ≤ most m r
  | [], m => ⟨by simp [most], fun y h => by simp [most] at h ⊢; omega⟩
  | x :: r, m => by
    unfold most
    by_cases c : x > m
    · rw [if_pos c]
      obtain ⟨h1, h2⟩ := most_ok r x
      refine ⟨List.mem_cons_of_mem _ h1, fun y hy => ?_⟩
      have h0 := h2 x List.mem_cons_self
      rcases List.mem_cons.mp hy with z | z
      · subst z; omega
      · exact h2 y z
    · rw [if_neg c]
      obtain ⟨h1, h2⟩ := most_ok r m
      refine ⟨?_, fun y hy => ?_⟩
      · rcases List.mem_cons.mp h1 with z | z
        · rw [z]; exact List.mem_cons_self
        · exact List.mem_cons_of_mem _ (List.mem_cons_of_mem _ z)
      · have h0 := h2 m List.mem_cons_self
        rcases List.mem_cons.mp hy with z | z
        · subst z; exact h0
        · rcases List.mem_cons.mp z with z | z
          · subst z; omega
          · exact h2 y (List.mem_cons_of_mem _ z)
theorem fn_min (hc : X.calm = true) : CallR X (.builtin "min") (rF X.K opMin) := by
  intro pins s σ H vs us Q I r h
  obtain ⟨W, x, dx, d, rfl, w, hx, e, q⟩ := h
  unfold opMin at e
  split at e
  · split at e
    · rename_i ds m rs e1
      cases e
      obtain ⟨a, xs, ex, sx, ax⟩ := dp_list hx
      rw [ints_vals ax e1] at sx
      refine cr_min hc pins s σ H _ us Q I r ⟨a, m :: rs, by rw [ex], sqL_sub hid_le sx, by simp, fun k hk hle => ?_⟩
      obtain ⟨h1, h2⟩ := least_ok rs m
      have := hle _ h1
      have := h2 k hk
      have ek : k = least m rs := by omega
      rw [ek]
      exact q _ _ (ResF.int _)
    · cases e
  · cases e
theorem fn_max (hc : X.calm = true) : CallR X (.builtin "max") (rF X.K opMax) := by
  intro pins s σ H vs us Q I r h
  obtain ⟨W, x, dx, d, rfl, w, hx, e, q⟩ := h
  unfold opMax at e
  split at e
  · split at e
    · rename_i ds m rs e1
      cases e
      obtain ⟨a, xs, ex, sx, ax⟩ := dp_list hx
      rw [ints_vals ax e1] at sx
      refine cr_max hc pins s σ H _ us Q I r ⟨a, m :: rs, by rw [ex], sqL_sub hid_le sx, by simp, fun k hk hle => ?_⟩
      obtain ⟨h1, h2⟩ := most_ok rs m
      have := hle _ h1
      have := h2 k hk
      have ek : k = most m rs := by omega
      rw [ek]
      exact q _ _ (ResF.int _)
    · cases e
  · cases e
theorem fn_min2 (hc : X.calm = true) : CallR X (.builtin "min") (rF2 X.K opMin2) := by
  intro pins s σ H vs us Q I r h
  obtain ⟨W, x, y, dx, dy, d, rfl, w, hx, hy, e, q⟩ := h
  unfold opMin2 at e
  split at e
  · cases e
    exact call_min2 hc pins s σ H _ us Q I r ⟨_, _, by rw [dp_int hx, dp_int hy], q _ _ (ResF.int _)⟩
  · cases e
theorem fn_max2 (hc : X.calm = true) : CallR X (.builtin "max") (rF2 X.K opMax2) := by
  intro pins s σ H vs us Q I r h
  obtain ⟨W, x, y, dx, dy, d, rfl, w, hx, hy, e, q⟩ := h
  unfold opMax2 at e
  split at e
  · cases e
    exact call_max2 hc pins s σ H _ us Q I r ⟨_, _, by rw [dp_int hx, dp_int hy], q _ _ (ResF.int _)⟩
  · cases e
end
end Dl

set_option maxRecDepth 100000
set_option maxHeartbeats 2000000
/-! sorted by data. -/
namespace Dl
open PySem PySem.Spec L2
open PyProof.Rows hiding St

/-! ### the order -/
theorem dLe_eq : dLe = PySem.W.dataLe false (fun d : D => d) := rfl
theorem dLe_total (x y : D) : (dLe x y || dLe y x) = true := by
  unfold dLe
  cases h : PySem.W.dataLt y x with
  | false => rfl
  | true =>
    cases h' : PySem.W.dataLt x y with
    | false => rfl
    | true =>
      have := lex_trans _ _ _ h h'
      rw [lex_irrefl] at this
      cases this
theorem dLe_trans (x y z : D) (h : dLe x y = true) (h' : dLe y z = true) : dLe x z = true := by
  unfold dLe at *
  cases q : PySem.W.dataLt z x with
  | false => rfl
  | true =>
    rcases lex_negTrans _ (PySem.W.keyToks y) _ q with w | w
    · have w : PySem.W.dataLt z y = true := w
      rw [w] at h'; cases h'
    · have w : PySem.W.dataLt y x = true := w
      rw [w] at h; cases h
theorem ins_perm (x : D) : ∀ l : List D, (ins x l).Perm (x :: l)
  | [] => List.Perm.refl _
  | y :: ys => by
    unfold ins
    split
    · exact List.Perm.refl _
    · exact ((ins_perm x ys).cons y).trans (List.Perm.swap _ _ _)
theorem isort_perm : ∀ l : List D, (isort l).Perm l
  | [] => List.Perm.refl _
  | x :: xs => (ins_perm x _).trans ((isort_perm xs).cons x)
theorem ins_sorted (x : D) : ∀ {l : List D}, l.Pairwise (fun a b => dLe a b = true) → (ins x l).Pairwise (fun a b => dLe a b = true)
  | [], _ => List.pairwise_singleton _ _
  | y :: ys, h => by
    obtain ⟨h1, h2⟩ := List.pairwise_cons.mp h
    unfold ins
    split
    · rename_i e
      refine List.pairwise_cons.mpr ⟨fun z hz => ?_, h⟩
      rcases List.mem_cons.mp hz with q | q
      · rw [q]; exact e
      · exact dLe_trans _ _ _ e (h1 z q)
    · rename_i e
      refine List.pairwise_cons.mpr ⟨fun z hz => ?_, ins_sorted x h2⟩
      rcases List.mem_cons.mp ((ins_perm x ys).mem_iff.mp hz) with q | q
      · rw [q]
        have := dLe_total x y
        rw [e] at this
        simpa using this
      · exact h1 z q
theorem isort_sorted : ∀ l : List D, (isort l).Pairwise (fun a b => dLe a b = true)
  | [] => List.Pairwise.nil
  | x :: xs => ins_sorted x (isort_sorted xs)
theorem ins_kept (x z : D) : ∀ {l : List D}, (ins x l).filter (PySem.W.Srt.alike dLe z) = (x :: l).filter (PySem.W.Srt.alike dLe z)
  | [] => rfl
  | y :: ys => by
    unfold ins
    split
    · rfl
    · rename_i e
      have ih := ins_kept x z (l := ys)
      rw [List.filter_cons, ih, List.filter_cons, List.filter_cons, List.filter_cons]
      cases hx : PySem.W.Srt.alike dLe z x with
      | false => simp
      | true =>
        cases hy : PySem.W.Srt.alike dLe z y with
        | false => simp
        | true =>
          unfold PySem.W.Srt.alike at hx hy
          have := dLe_trans x z y (and_tt hx).2 (and_tt hy).1
          rw [this] at e; cases e
theorem isort_kept (z : D) : ∀ l : List D, (isort l).filter (PySem.W.Srt.alike dLe z) = l.filter (PySem.W.Srt.alike dLe z)
  | [] => rfl
  | x :: xs => by
    show (ins x (isort xs)).filter _ = _
    rw [ins_kept, List.filter_cons, List.filter_cons, isort_kept z xs]
theorem isort_eq (l : List D) : isort l = l.mergeSort (PySem.W.dataLe false fun d : D => d) :=
  PySem.W.Srt.the dLe dLe_trans dLe_total (isort_sorted l) fun z => isort_kept z l

section
variable {prog : Program} {w : World} {A : Around} {E : Value → Shared → Prop} {s : Shared}
/-- sorted(xs), a list or a tuple -/
theorem sorted_seq {l : Addr} {T : String} {o : Obj} {vs : List Value} {n : Nat} {Q : Value → Shared → Prop} (hT : T = "list" ∨ T = "tuple") (ho : s.heap.get? l = some o) (hc : o.cls = .type T) (hd : o.data = .seq vs.toArray n) (hL : vs.length ≤ sizeLine)
    (body : ∀ h' : Heap, (∀ b o', s.heap.get? b = some o' → h'.get? b = some o') → ∀ E' : Value → Shared → Prop,
      wpAny (model prog w) A.in1.in1 (Builtin.«list.sort» ⟨[.ref h'.objs.size], []⟩) (fun f s' => f = .done (.ret .none) ∧ Q (.ref h'.objs.size) s') E' { s with heap := h'.push (seqObj "list" vs.toArray 0) }) :
    wpAny (model prog w) A (call (.builtin "sorted") [.ref l] []) Q E s := by
  refine call_function_entry_kw kind_sorted plain_sorted entry_sorted (args_sorted1 _) ?_
  unfold Builtin.«sorted»
  refine wpAny_bind (m := checkCount "sorted" 1 1 _) (wpAny_pure ?_)
  refine wpAny_bind (wpAny_collect_seq (hsz := by rw [List.size_toArray]; exact hL) l hT ho hc hd fun h' hk => ?_)
  refine wpAny_bind (wpAny_newList ?_ hL)
  have hat : (h'.push (seqObj "list" vs.toArray 0)).get? h'.objs.size = some (seqObj "list" vs.toArray 0) := Heap.get?_push_size _ rfl
  refine wpAny_bind (wpAny_holding (wpAny_call_entry_kw slot_list_sort ⟨_, hat, rfl⟩ entry_list_sort ?body (args_list_sort _)))
  case body =>
    show wpAny (model prog w) A.in1.in1 (Builtin.«list.sort» ⟨[.ref h'.objs.size], []⟩) _ _ _
    refine wpAny_mono (body h' hk _) (fun f s' hf => ?_) fun _ _ e => e
    obtain ⟨rfl, hq⟩ := hf
    exact ⟨_, rfl, wpAny_pure ⟨_, rfl, hq⟩⟩
end
section
variable {X : Cx}
theorem each_rel {K : PySem.W.Frag} {H : Hp} : ∀ {ds : List D} {xs : List V} {us : List Value}, DpAll K H xs ds → Vals xs us → PySem.W.EachIs (fun u d => ∃ x : V, RelV x u ∧ Dp K H x d) us ds
  | [], _, _, h, r => by cases h; cases r; exact .nil
  | d :: ds, _, _, h, r => by
    cases h with
    | cons h1 h2 =>
      cases r with
      | cons r1 r2 => exact .cons ⟨_, r1, h1⟩ (each_rel h2 r2)
theorem rel_each {K : PySem.W.Frag} {H : Hp} : ∀ {ds : List D} {us : List Value}, PySem.W.EachIs (fun u d => ∃ x : V, RelV x u ∧ Dp K H x d) us ds → ∃ xs, Vals xs us ∧ DpAll K H xs ds
  | _, _, .nil => ⟨[], .nil, .nil⟩
  | _, _, .cons ⟨x, r, h⟩ t => by
    obtain ⟨xs, r2, h2⟩ := rel_each t
    exact ⟨x :: xs, .cons r r2, .cons h h2⟩
theorem sortB_ok {ds : List D} (h : sortB ds = true) : ds.length ≤ sizeLine ∧ PySem.W.AllAlike ds ∧ PySem.W.Sortable ds ∧ ∀ d ∈ ds, d.depth ≤ 64 := by
  unfold sortB at h
  obtain ⟨h, h4⟩ := and_tt h
  obtain ⟨h, h3⟩ := and_tt h
  obtain ⟨h1, h2⟩ := and_tt h
  refine ⟨by rw [← line_eq]; exact of_decide_eq_true h1, fun d hd e he => List.all_eq_true.mp (List.all_eq_true.mp h2 d hd) e he, ?_, fun d hd => of_decide_eq_true (List.all_eq_true.mp h4 d hd)⟩
  rcases Bool.or_eq_true_iff.mp h3 with q | q
  · refine .inl fun d hd => ?_
    have := List.all_eq_true.mp q d hd
    unfold isTupC at this
    split at this
    · exact ⟨_, _, rfl⟩
    · cases this
  · refine .inr fun d hd => ?_
    have := List.all_eq_true.mp q d hd
    unfold noTup at this
    split at this
    · cases this
    · cases this
    · rename_i h1 h2
      exact ⟨h1, h2⟩
theorem sorted_run {pins : List (Addr × Obj)} {s : Shared} {σ : SSt} {H : Hp} {Q : VK} {T : String} {l : Addr} {o : Obj} {xs : List V} {its : List Value} {n : Nat} {W : Addr → Prop} {ds : List D} (hu : X.A.units + 200 < cLine) (I : Inv X pins σ H s) (hT : T = "list" ∨ T = "tuple") (ho : s.heap.get? l = some o) (hc : o.cls = .type T) (hd : o.data = .seq its.toArray n)
    (rv : Vals xs its) (w : Wok W H) (ax : DpAll X.K (hid W H) xs ds) (hb : sortB ds = true) (q : ∀ v H', ResF X.K W H H' v (.list (isort ds)) → Q v H') :
    wpAny (model X.prog X.w) X.A (call (.builtin "sorted") [.ref l] []) (EP X pins σ Q) X.xe s := by
  obtain ⟨b1, b2, b3, b4⟩ := sortB_ok hb
  have hlen : its.length = ds.length := by rw [← rv.length]; exact DpAll.length ax
  refine sorted_seq hT ho hc hd (by rw [hlen]; exact b1) fun h' hk E' => ?_
  have I1 : Inv X pins σ H { s with heap := h' } := I.kept (t' := s.toks) hk
  have hat : (h'.push (seqObj "list" its.toArray 0)).get? h'.objs.size = some (seqObj "list" its.toArray 0) := Heap.get?_push_size _ rfl
  have keep : ∀ b o', s.heap.get? b = some o' → (PySem.W.sortingHeap (h'.push (seqObj "list" its.toArray 0)) h'.objs.size its).get? b = some o' := fun b o' e => by
    have e1 := hk b o' e
    exact PySem.W.sortingHeap_old (Nat.ne_of_lt (Heap.lt_size e1)) (Heap.get?_push_of_some _ e1)
  have er0 : PySem.W.EachIs (fun u d => ∃ x : V, RelV x u ∧ Dp X.K (hid W H) x d) its ds := each_rel ax rv
  have er : PySem.W.EachIs (fun v d => ∃ as, Reads (PySem.W.sortingHeap (h'.push (seqObj "list" its.toArray 0)) h'.objs.size its) v d as) its ds := er0.mono fun u d ⟨x, r, h⟩ => by
    obtain ⟨as, rr⟩ := Dp.reads I d x u (dp_le h) r
    exact ⟨as, PyProof.Rows.Reads.keeps keep rr⟩
  have hal : PySem.W.AllAlike (ds.map fun d : D => d) := by rw [List.map_id']; exact b2
  refine PySem.W.list_sort_vals (s := { s with heap := h'.push (seqObj "list" its.toArray 0) }) hat
    (PySem.W.SortsAt.data (s := { s with heap := PySem.W.sortingHeap (h'.push (seqObj "list" its.toArray 0)) h'.objs.size its }) er b2 b3 fun d hd => ?_) (by rw [hlen]; exact b1) ⟨rfl, ?_⟩
  · have := b4 d hd
    have : X.A.in1.in1.units ≤ X.A.units + 2 := Nat.le_refl _
    omega
  · have h1 := PySem.W.sortVals_data (h' := PySem.W.sortingHeap (h'.push (seqObj "list" its.toArray 0)) h'.objs.size its) (R := fun u d => ∃ x : V, RelV x u ∧ Dp X.K (hid W H) x d) (enc := fun d : D => d) false er0 er hal
    rw [← isort_eq, List.map_id'] at h1
    obtain ⟨ys, r2, h2⟩ := rel_each h1
    obtain ⟨ep, he'⟩ := PyProof.Rows.sortedHeap_at (vs := its) (out := (PySem.W.sortVals (PySem.W.dataKind (PySem.W.sortingHeap (h'.push (seqObj "list" its.toArray 0)) h'.objs.size its) ds) false its its).toArray) hat
    have hl2 : ys.length ≤ sizeLine := by
      rw [DpAll.length h2, (isort_perm ds).length_eq]; exact b1
    have I2 : Inv X pins σ (upd H h'.objs.size (.lst ys)) { s with heap := sortedHeap (h'.push (seqObj "list" its.toArray 0)) h'.objs.size its (PySem.W.sortVals (PySem.W.dataKind (PySem.W.sortingHeap (h'.push (seqObj "list" its.toArray 0)) h'.objs.size its) ds) false its its).toArray } :=
      I1.laid (t' := s.toks) (fun b u e => by
        have lt := Heap.lt_size e
        rw [PyProof.Rows.sortedHeap_old (Nat.ne_of_lt lt) (by rw [size_push']; exact Nat.lt_succ_of_lt lt)]
        exact Heap.get?_push_of_some _ e) (Nat.le_refl _) ⟨hl2, _, ep, r2, he'⟩
    exact ⟨.ref h'.objs.size, _, I2, rfl, q _ _ (ResF.lst w (I1.hok.fresh (Nat.le_refl _)) h2)⟩
theorem fn_sorted (hu : X.A.units + 200 < cLine) : CallR X (.builtin "sorted") (rF X.K opSorted) := by
  intro pins s σ H vs us Q I r h
  obtain ⟨W, x, dx, d, rfl, w, hx, e, q⟩ := h
  cases dx with
  | list ds =>
    obtain ⟨b, rfl⟩ := chk_some (show chk _ _ = some d from e)
    obtain ⟨a, xs, ex, sx, ax⟩ := dp_list hx
    subst ex
    rw [Vals.ref1 r]
    obtain ⟨its, rv, ⟨o, n, ho, hc, _, hd⟩, hz⟩ := I.list (sqL_sub hid_le sx)
    exact sorted_run hu I (.inl rfl) ho hc hd rv w ax b q
  | tuple ds =>
    obtain ⟨b, rfl⟩ := chk_some (show chk _ _ = some d from e)
    obtain ⟨a, xs, ex, sx, ax⟩ := dp_tup hx
    subst ex
    rw [Vals.ref1 r]
    obtain ⟨its, rv, ⟨o, ho, hc, n, hd⟩, hz⟩ := I.tuple (sqT_sub hid_le sx)
    exact sorted_run hu I (.inr rfl) ho hc hd rv w ax b q
  | _ => cases e
end
end Dl

set_option maxRecDepth 100000
set_option maxHeartbeats 2000000
/-! sorted(d) of such a dict: its keys, as data. -/
namespace Dl
open PySem PySem.Spec L2
open PyProof.Rows hiding St
section
variable {prog : Program} {w : World} {A : Around} {E : Value → Shared → Prop} {s : Shared}
/-- sorted(u) where u gives these things -/
theorem sorted_col {u : Value} {vs : List Value} {Q : Value → Shared → Prop} (hL : vs.length ≤ sizeLine)
    (col : ∀ (R : List Value → Shared → Prop) (E' : Value → Shared → Prop), (∀ (h' : Heap) (tk : Nat), (∀ b o', s.heap.get? b = some o' → h'.get? b = some o') → R vs { s with heap := h', toks := tk }) → wpAny (model prog w) A.in1 (collect u) R E' s)
    (body : ∀ (h' : Heap) (tk : Nat), (∀ b o', s.heap.get? b = some o' → h'.get? b = some o') → ∀ E' : Value → Shared → Prop,
      wpAny (model prog w) A.in1.in1 (Builtin.«list.sort» ⟨[.ref h'.objs.size], []⟩) (fun f s' => f = .done (.ret .none) ∧ Q (.ref h'.objs.size) s') E' { s with heap := h'.push (seqObj "list" vs.toArray 0), toks := tk }) :
    wpAny (model prog w) A (call (.builtin "sorted") [u] []) Q E s := by
  refine call_function_entry_kw kind_sorted plain_sorted entry_sorted (args_sorted1 _) ?_
  unfold Builtin.«sorted»
  refine wpAny_bind (m := checkCount "sorted" 1 1 _) (wpAny_pure ?_)
  refine wpAny_bind (col _ _ fun h' tk hk => ?_)
  refine wpAny_bind (wpAny_newList ?_ hL)
  have hat : (h'.push (seqObj "list" vs.toArray 0)).get? h'.objs.size = some (seqObj "list" vs.toArray 0) := Heap.get?_push_size _ rfl
  refine wpAny_bind (wpAny_holding (wpAny_call_entry_kw slot_list_sort ⟨_, hat, rfl⟩ entry_list_sort ?body (args_list_sort _)))
  case body =>
    show wpAny (model prog w) A.in1.in1 (Builtin.«list.sort» ⟨[.ref h'.objs.size], []⟩) _ _ _
    refine wpAny_mono (body h' tk hk _) (fun f s' hf => ?_) fun _ _ e => e
    obtain ⟨rfl, hq⟩ := hf
    exact ⟨_, rfl, wpAny_pure ⟨_, rfl, hq⟩⟩
end
section
variable {X : Cx}
theorem SortsAt.one {prog : Program} {w : World} {A : Around} {s : Shared} {vs : List Value} {ds : List D} (e : PySem.W.EachIs (fun v d => ∃ as, Reads s.heap v d as) vs ds) (hal : PySem.W.AllAlike ds) (hn : ∀ d ∈ ds, d ≠ .none) (h1 : vs.length ≤ 1) (hu : ∀ d, d ∈ ds → A.units + d.depth < cLine) : PySem.W.SortsAt prog w A s (PySem.W.dataKind s.heap ds) vs := by
  refine ⟨fun v hv => ?_, general', ?_, fun h2 => absurd h2 (by omega)⟩
  · obtain ⟨d, hd, as, r⟩ := e.left v hv
    exact ⟨_, PySem.W.dataKind_some hal hd r⟩
  · intro E x y a b Q ha hb hq
    obtain ⟨d, as, hd, ra, rfl⟩ := PySem.W.dataKind_inv ha
    obtain ⟨d', as', hd', rb, rfl⟩ := PySem.W.dataKind_inv hb
    show wpAny _ _ (oneLt' false x y) _ _ _
    exact PySem.W.oneLt_alike (fun z => nomatch z) ra rb (hal d hd d' hd') (hn d hd) (Nat.lt_of_le_of_lt (Nat.add_le_add_left (Nat.min_le_left _ _) _) (hu d hd)) hq
theorem sorts_ok {prog : Program} {w : World} {A : Around} {s : Shared} {vs : List Value} {ds : List D} (h : sortB1 ds = true) (e : PySem.W.EachIs (fun v d => ∃ as, Reads s.heap v d as) vs ds) (hl : vs.length = ds.length) (hu : A.units + 64 < cLine) :
    ds.length ≤ sizeLine ∧ PySem.W.AllAlike ds ∧ PySem.W.SortsAt prog w A s (PySem.W.dataKind s.heap ds) vs := by
  unfold sortB1 at h
  rcases Bool.or_eq_true_iff.mp h with h | h
  · obtain ⟨b1, b2, b3, b4⟩ := sortB_ok h
    exact ⟨b1, b2, PySem.W.SortsAt.data e b2 b3 fun d hd => by have := b4 d hd; omega⟩
  · unfold oneB at h
    obtain ⟨h, h4⟩ := and_tt h
    obtain ⟨h, h3⟩ := and_tt h
    obtain ⟨h1, h2⟩ := and_tt h
    have h1 := of_decide_eq_true h1
    have al : PySem.W.AllAlike ds := fun d hd d' hd' => by
      have : d = d' := by
        match ds, h1 with
        | [x], _ => rw [List.mem_singleton.mp hd, List.mem_singleton.mp hd']
        | [], _ => cases hd
      rw [← this]
      exact List.all_eq_true.mp h2 d hd
    refine ⟨Nat.le_trans h1 (by decide), al, SortsAt.one e al (fun d hd z => ?_) (by omega) fun d hd => ?_⟩
    · have := List.all_eq_true.mp h3 d hd
      rw [z] at this
      cases this
    · have := of_decide_eq_true (List.all_eq_true.mp h4 d hd)
      omega
theorem sorted_runC {pins : List (Addr × Obj)} {s : Shared} {σ : SSt} {H : Hp} {Q : VK} {u : Value} {xs : List V} {its : List Value} {W : Addr → Prop} {ds : List D} (hu : X.A.units + 200 < cLine) (I : Inv X pins σ H s)
    (col : ∀ (R : List Value → Shared → Prop) (E' : Value → Shared → Prop), (∀ (h' : Heap) (tk : Nat), (∀ b o', s.heap.get? b = some o' → h'.get? b = some o') → R its { s with heap := h', toks := tk }) → wpAny (model X.prog X.w) X.A.in1 (collect u) R E' s)
    (rv : Vals xs its) (w : Wok W H) (ax : DpAll X.K (hid W H) xs ds) (hb : sortB1 ds = true) (q : ∀ v H', ResF X.K W H H' v (.list (isort ds)) → Q v H') :
    wpAny (model X.prog X.w) X.A (call (.builtin "sorted") [u] []) (EP X pins σ Q) X.xe s := by
  have hlen : its.length = ds.length := by rw [← rv.length]; exact DpAll.length ax
  have b1 : ds.length ≤ sizeLine := by
    unfold sortB1 at hb
    rcases Bool.or_eq_true_iff.mp hb with z | z
    · exact (sortB_ok z).1
    · unfold oneB at z
      exact Nat.le_trans (of_decide_eq_true (and_tt (and_tt (and_tt z).1).1).1) (by decide)
  refine sorted_col (by rw [hlen]; exact b1) col fun h' tk hk E' => ?_
  have I1 : Inv X pins σ H { s with heap := h', toks := tk } := I.kept (t' := tk) hk
  have hat : (h'.push (seqObj "list" its.toArray 0)).get? h'.objs.size = some (seqObj "list" its.toArray 0) := Heap.get?_push_size _ rfl
  have keep : ∀ b o', s.heap.get? b = some o' → (PySem.W.sortingHeap (h'.push (seqObj "list" its.toArray 0)) h'.objs.size its).get? b = some o' := fun b o' e => by
    have e1 := hk b o' e
    exact PySem.W.sortingHeap_old (Nat.ne_of_lt (Heap.lt_size e1)) (Heap.get?_push_of_some _ e1)
  have er0 : PySem.W.EachIs (fun u d => ∃ x : V, RelV x u ∧ Dp X.K (hid W H) x d) its ds := each_rel ax rv
  have er : PySem.W.EachIs (fun v d => ∃ as, Reads (PySem.W.sortingHeap (h'.push (seqObj "list" its.toArray 0)) h'.objs.size its) v d as) its ds := er0.mono fun u d ⟨x, r, h⟩ => by
    obtain ⟨as, rr⟩ := Dp.reads I d x u (dp_le h) r
    exact ⟨as, PyProof.Rows.Reads.keeps keep rr⟩
  obtain ⟨_, b2, bs⟩ := sorts_ok (prog := X.prog) (w := X.w) (A := X.A.in1.in1) (s := { s with heap := PySem.W.sortingHeap (h'.push (seqObj "list" its.toArray 0)) h'.objs.size its, toks := tk }) hb er hlen (by
    have : X.A.in1.in1.units ≤ X.A.units + 2 := Nat.le_refl _
    omega)
  have hal : PySem.W.AllAlike (ds.map fun d : D => d) := by rw [List.map_id']; exact b2
  refine PySem.W.list_sort_vals (s := { s with heap := h'.push (seqObj "list" its.toArray 0), toks := tk }) hat
    bs (by rw [hlen]; exact b1) ⟨rfl, ?_⟩
  · have h1 := PySem.W.sortVals_data (h' := PySem.W.sortingHeap (h'.push (seqObj "list" its.toArray 0)) h'.objs.size its) (R := fun u d => ∃ x : V, RelV x u ∧ Dp X.K (hid W H) x d) (enc := fun d : D => d) false er0 er hal
    rw [← isort_eq, List.map_id'] at h1
    obtain ⟨ys, r2, h2⟩ := rel_each h1
    obtain ⟨ep, he'⟩ := PyProof.Rows.sortedHeap_at (vs := its) (out := (PySem.W.sortVals (PySem.W.dataKind (PySem.W.sortingHeap (h'.push (seqObj "list" its.toArray 0)) h'.objs.size its) ds) false its its).toArray) hat
    have hl2 : ys.length ≤ sizeLine := by
      rw [DpAll.length h2, (isort_perm ds).length_eq]; exact b1
    have I2 : Inv X pins σ (upd H h'.objs.size (.lst ys)) { s with heap := sortedHeap (h'.push (seqObj "list" its.toArray 0)) h'.objs.size its (PySem.W.sortVals (PySem.W.dataKind (PySem.W.sortingHeap (h'.push (seqObj "list" its.toArray 0)) h'.objs.size its) ds) false its its).toArray, toks := tk } :=
      I1.laid (t' := tk) (fun b u e => by
        have lt := Heap.lt_size e
        rw [PyProof.Rows.sortedHeap_old (Nat.ne_of_lt lt) (by rw [size_push']; exact Nat.lt_succ_of_lt lt)]
        exact Heap.get?_push_of_some _ e) (Nat.le_refl _) ⟨hl2, _, ep, r2, he'⟩
    exact ⟨.ref h'.objs.size, _, I2, rfl, q _ _ (ResF.lst w (I1.hok.fresh (Nat.le_refl _)) h2)⟩
theorem tab_keys {K : PySem.W.Frag} {H : Hp} {tab : TabD} {kvs : TabK} (r : tabOf K H tab kvs) : DpAll K H (kvs.map fun p => V.ref p.2.1) (tab.map (·.1)) := by
  induction r with
  | nil => exact .nil
  | cons h t ih => exact .cons h.2.2.1 ih
theorem tab_vals : ∀ {kvs : TabK} {xs : List (NestedKey × Addr × Value)}, tabRel kvs xs → Vals (kvs.map fun p => V.ref p.2.1) (xs.map fun x => Value.ref x.2.1)
  | _, _, .nil => .nil
  | _, _, .cons h t => .cons (by show Value.ref _ = Value.ref _; rw [h.2.1]) (tab_vals t)
/-- sorted(d): the keys -/
theorem t_sorted {pins : List (Addr × Obj)} {s : Shared} {σ : SSt} {H : Hp} {Q : VK} {a : Addr} {kvs : TabK} {tab : TabD} {W : Addr → Prop} (hc : X.calm = true) (hu : X.A.units + 200 < cLine) (I : Inv X pins σ H s)
    (e : H a = some (TabO X.prog X.w a kvs)) (r : tabOf X.K (hid W H) tab kvs) (w : Wok W H) (hb : sortB1 (tab.map (·.1)) = true) (q : ∀ v H', ResF X.K W H H' v (.list (isort (tab.map (·.1)))) → Q v H') :
    wpAny (model X.prog X.w) X.A (call (.builtin "sorted") [.ref a] []) (EP X pins σ Q) X.xe s := by
  obtain ⟨⟨z, lo, xs, rel, o, es, ep, ho, hx, hdt, he, hn⟩, _⟩ := I.hok a _ e
  have l1 : es.size = xs.length := size_of_entries he
  have l2 : kvs.length = xs.length := Paired.length rel
  refine sorted_runC hu I (fun R E' k => ?_) (tab_vals rel) w (tab_keys r) hb q
  refine PySem.W.kdu_collect (A := X.A.in1) (kdl_raw lo hx hdt) (I.ok.hd hc) ho (by omega) fun h' tk acc hk it => ?_
  have ea : acc.toList = xs.map fun x => Value.ref x.2.1 := by
    have hl : acc.toList.length = xs.length := by rw [Array.length_toList, it.1]; exact l1
    apply List.ext_getElem?
    intro j
    rw [List.getElem?_map]
    cases hj : acc.toList[j]? with
    | none =>
      have h1 := List.getElem?_eq_none_iff.mp hj
      rw [List.getElem?_eq_none (by omega)]
      rfl
    | some v =>
      obtain ⟨en, hen, hv⟩ := it.2 j v (by rw [← Array.getElem?_toList]; exact hj)
      have qe := entry_at he j
      rw [hen] at qe
      cases hb : xs[j]? with
      | none =>
        rw [hb] at qe
        exact nomatch (show some en = none from qe)
      | some b =>
        rw [hb] at qe
        have e2 : en = entryOfKey (nestedKind X.prog X.w) b := Option.some.inj qe
        rw [hv, e2]
        rfl
  rw [ea]
  exact k h' tk hk
end
end Dl

set_option maxRecDepth 100000
set_option maxHeartbeats 2000000
/-! What adding such a key to a set asks of it. -/
namespace Dl
open PySem PySem.Spec L2
open PyProof.Rows hiding St
section
variable {prog : Program} {w : World}
def NoClassAt (prog : Program) (w : World) (n : Nat) (s : Shared) (v : Value) : Prop := ∀ (A : Around) (E : Value → Shared → Prop) (Q : Bool → Shared → Prop), Q false s → wpAny (model prog w) A (ofAClassStatement n v) Q E s
theorem NoClassAt.tuple {n : Nat} {s : Shared} {a : Addr} {o : Obj} {vs : Array Value} {m : Nat} (ho : s.heap.get? a = some o) (hc : o.cls = .type "tuple") (hd : o.data = .seq vs m) (hq : ∀ v ∈ vs.toList, NoClassAt prog w n s v) : NoClassAt prog w (n + 1) s (.ref a) := fun A E Q h => by
  have hT : s.TypeIs (.ref a) "tuple" := ⟨o, ho, hc⟩
  unfold ofAClassStatement
  refine wpAny_bind (wpAny_typeOf hT ?_)
  dsimp only
  have e : (("tuple" : String) == "tuple") = true := by decide
  simp only [e, if_true, Bool.not_true, Bool.false_eq_true, if_false]
  try refine wpAny_bind (wpAny_pure ?_)
  try simp only [Bool.not_true, Bool.false_eq_true, if_false]
  show wpAny _ _ (seqItems? (.ref a) >>= _) _ _ s
  refine wpAny_bind (wpAny_seqItems ho hd ?_)
  dsimp only
  refine wpAny_bind ?_
  show wpAny _ _ (forIn vs _ _) _ _ s
  rw [← Array.forIn_toList]
  refine wpAny_forIn_list _ (fun rest r s' => r.1 = none ∧ s' = s ∧ ∀ v ∈ rest, NoClassAt prog w n s v) _ ?_ ?_ _ _ ⟨rfl, rfl, hq⟩
  · rintro v rest r s' ⟨hr, rfl, hall⟩
    refine wpAny_bind (hall v List.mem_cons_self _ _ _ ?_)
    simp only [Bool.false_eq_true, if_false]
    exact wpAny_pure ⟨rfl, rfl, fun u hu' => hall u (List.mem_cons_of_mem _ hu')⟩
  · rintro ⟨r1, r2⟩ s' ⟨hr, rfl, _⟩
    simp only at hr
    subst hr
    exact wpAny_pure h
theorem NoClassAt.scalar {n : Nat} {s : Shared} {v : Value} (h : ∀ n, ofAClassStatement n v = pure false) : NoClassAt prog w n s v := fun A E Q hq => by
  rw [h n]
  exact wpAny_pure hq
mutual
theorem noClass_key : ∀ (k : NestedKey) (v : Value) (n : Nat) (s : Shared), NestedIs s.heap k v → k.depth ≤ n → NoClassAt prog w n s v
  | .none, _, n, s, x, _ => by cases x; exact .scalar fun n => by cases n <;> rfl
  | .num i, _, n, s, x, _ => by cases x <;> exact .scalar fun n => by cases n <;> rfl
  | .text y, _, n, s, x, _ => by cases x; exact .scalar fun n => by cases n <;> rfl
  | .tup ks, _, n, s, x, hn => by
    cases x with
    | tup hg hc hd hk =>
      simp only [NestedKey.depth] at hn
      cases n with
      | zero => omega
      | succ n => exact .tuple hg hc hd (noClass_keys ks _ n s hk (by omega))
theorem noClass_keys : ∀ (ks : List NestedKey) (vs : List Value) (n : Nat) (s : Shared), NestedAll s.heap ks vs → NestedKey.depthAll ks ≤ n → ∀ v ∈ vs, NoClassAt prog w n s v
  | [], _, n, s, x, _ => by cases x; intro v hv; exact nomatch hv
  | k :: ks, _, n, s, x, hn => by
    cases x with
    | cons h1 h2 =>
      simp only [NestedKey.depthAll] at hn
      intro v hv
      rcases List.mem_cons.mp hv with e | hv
      · subst e; exact noClass_key k _ n s h1 (by omega)
      · exact noClass_keys ks _ n s h2 (by omega) v hv
end
/-- whether a key hashes by its value: either way, and nothing happens -/
def HashesAt (prog : Program) (w : World) (n : Nat) (s : Shared) (v : Value) : Prop := ∃ b : Bool, ∀ (A : Around) (E : Value → Shared → Prop) (Q : Bool → Shared → Prop), Q b s → wpAny (model prog w) A (hashByValue n v) Q E s
theorem HashesAt.scalar {n : Nat} {s : Shared} {v : Value} (b : Bool) (h : ∀ n, hashByValue n v = pure b) : HashesAt prog w n s v := ⟨b, fun A E Q hq => by
  rw [h n]
  exact wpAny_pure hq⟩
theorem HashesAt.tuple {n : Nat} {s : Shared} {a : Addr} {o : Obj} {vs : Array Value} {m : Nat} (ho : s.heap.get? a = some o) (hc : o.cls = .type "tuple") (hd : o.data = .seq vs m) (hq : ∀ v ∈ vs.toList, HashesAt prog w n s v) : HashesAt prog w (n + 1) s (.ref a) := by
  classical
  have hT : s.TypeIs (.ref a) "tuple" := ⟨o, ho, hc⟩
  obtain ⟨β, hβ⟩ : ∃ β : Value → Bool, ∀ v ∈ vs.toList, ∀ (A : Around) (E : Value → Shared → Prop) (Q : Bool → Shared → Prop), Q (β v) s → wpAny (model prog w) A (hashByValue n v) Q E s :=
    ⟨fun v => if h : v ∈ vs.toList then Classical.choose (hq v h) else true, fun v h => by
      simp only [dif_pos h]
      exact Classical.choose_spec (hq v h)⟩
  refine ⟨vs.toList.all β, fun A E Q h => ?_⟩
  unfold hashByValue
  refine wpAny_bind (wpAny_specialOf hT F.slot_tuple_hash.lookup ?_)
  show wpAny _ _ (seqItems? (.ref a) >>= _) _ _ s
  refine wpAny_bind (wpAny_seqItems ho hd ?_)
  refine wpAny_bind ?_
  show wpAny _ _ (forIn vs _ _) _ _ s
  rw [← Array.forIn_toList]
  refine wpAny_forIn_list _ (fun rest r s' => r.1 = none ∧ s' = s ∧ vs.toList.all β = rest.all β ∧ ∀ v ∈ rest, ∀ (A : Around) (E : Value → Shared → Prop) (Q : Bool → Shared → Prop), Q (β v) s → wpAny (model prog w) A (hashByValue n v) Q E s) _ ?_ ?_ _ _ ⟨rfl, rfl, rfl, hβ⟩
  · rintro v rest r s' ⟨hr, rfl, hall, hsp⟩
    refine wpAny_bind (hsp v List.mem_cons_self _ _ _ ?_)
    cases hb : β v with
    | false =>
      simp only [Bool.not_false, if_true]
      refine wpAny_pure ?_
      have : vs.toList.all β = false := by rw [hall, List.all_cons, hb]; rfl
      rw [this] at h
      exact wpAny_pure h
    | true =>
      simp only [Bool.not_true, Bool.false_eq_true, if_false]
      exact wpAny_pure ⟨rfl, rfl, by rw [hall, List.all_cons, hb]; rfl, fun u hu' => hsp u (List.mem_cons_of_mem _ hu')⟩
  · rintro ⟨r1, r2⟩ s' ⟨hr, rfl, hall, _⟩
    simp only at hr
    subst hr
    rw [hall] at h
    exact wpAny_pure h
mutual
theorem hashes_key : ∀ (k : NestedKey) (v : Value) (n : Nat) (s : Shared), NestedIs s.heap k v → k.depth ≤ n → HashesAt prog w n s v
  | .none, _, n, s, x, _ => by cases x; exact .scalar true fun n => by cases n <;> rfl
  | .num i, _, n, s, x, _ => by cases x <;> exact .scalar true fun n => by cases n <;> rfl
  | .text y, _, n, s, x, _ => by cases x; exact .scalar false fun n => by cases n <;> rfl
  | .tup ks, _, n, s, x, hn => by
    cases x with
    | tup hg hc hd hk =>
      simp only [NestedKey.depth] at hn
      cases n with
      | zero => omega
      | succ n => exact .tuple hg hc hd (hashes_keys ks _ n s hk (by omega))
theorem hashes_keys : ∀ (ks : List NestedKey) (vs : List Value) (n : Nat) (s : Shared), NestedAll s.heap ks vs → NestedKey.depthAll ks ≤ n → ∀ v ∈ vs, HashesAt prog w n s v
  | [], _, n, s, x, _ => by cases x; intro v hv; exact nomatch hv
  | k :: ks, _, n, s, x, hn => by
    cases x with
    | cons h1 h2 =>
      simp only [NestedKey.depthAll] at hn
      intro v hv
      rcases List.mem_cons.mp hv with e | hv
      · subst e; exact hashes_key k _ n s h1 (by omega)
      · exact hashes_keys ks _ n s h2 (by omega) v hv
end
/-- a search among such keys shows nothing -/
theorem seen_key {A : Around} {E : Value → Shared → Prop} {s : Shared} {k : NestedKey} {b : Addr} {Q : Bool → Shared → Prop} (hk : (nestedKind prog w).is s.heap k b) {ys : List Value} (hy : ∀ y ∈ ys, ∃ k' c, y = Value.ref c ∧ (nestedKind prog w).is s.heap k' c) (h : Q false s) :
    wpAny (model prog w) A (searchCouldBeSeen (.ref b) ys) Q E s := by
  unfold searchCouldBeSeen
  refine wpAny_bind ?_
  refine wpAny_forIn_list _ (fun rest r s' => r.1 = none ∧ s' = s ∧ ∀ y ∈ rest, ∃ k' c, y = Value.ref c ∧ (nestedKind prog w).is s.heap k' c) _ ?_ ?_ _ _ ⟨rfl, rfl, hy⟩
  · rintro v rest r s' ⟨hr, rfl, hall⟩
    obtain ⟨k', c, rfl, hc⟩ := hall v List.mem_cons_self
    have rest' : ∀ y ∈ rest, ∃ k' c, y = Value.ref c ∧ (nestedKind prog w).is s'.heap k' c := fun u hu' => hall u (List.mem_cons_of_mem _ hu')
    dsimp only
    by_cases hv : (b == c || (carriedByValue (.ref b) && carriedByValue (.ref c))) = true
    · refine wp_if_pos hv ?_
      exact wpAny_pure ⟨rfl, rfl, rest'⟩
    · refine wp_if_neg hv ?_
      refine wpAny_bind (quiet_key k _ 8 _ hk.1 hk.2 _ _ _ ?_)
      simp only [Bool.not_true, Bool.false_eq_true, if_false]
      refine wpAny_bind (quiet_key k' _ 8 _ hc.1 hc.2 _ _ _ ?_)
      simp only [Bool.not_true, Bool.false_eq_true, if_false]
      refine wpAny_bind (noClass_key k _ 8 _ hk.1 hk.2 _ _ _ ?_)
      simp only [Bool.false_eq_true, if_false]
      refine wpAny_bind (noClass_key k' _ 8 _ hc.1 hc.2 _ _ _ ?_)
      simp only [Bool.false_eq_true, if_false]
      exact wpAny_pure ⟨rfl, rfl, rest'⟩
  · rintro ⟨r1, r2⟩ s' ⟨hr, rfl, _⟩
    simp only at hr
    subst hr
    exact wpAny_pure h
end
end Dl

set_option maxRecDepth 100000
set_option maxHeartbeats 2000000
/-! What sorted gives does not hang on the order, where no two unlike things are alike to it. -/
namespace Dl
open PySem PySem.Spec L2
open PyProof.Rows hiding St
theorem one_order {α : Type} {le : α → α → Prop} : ∀ {a b : List α}, a.Pairwise le → b.Pairwise le → a.Perm b → (∀ x ∈ a, ∀ y ∈ a, le x y → le y x → x = y) → a = b
  | [], b, _, _, p, _ => (List.Perm.nil_eq p)
  | x :: a, [], _, _, p, _ => absurd p.symm.nil_eq (by simp)
  | x :: a, y :: b, ha, hb, p, h => by
    have h1 := List.pairwise_cons.mp ha
    have h2 := List.pairwise_cons.mp hb
    have e : x = y := by
      have hx : x ∈ y :: b := p.mem_iff.mp (List.mem_cons_self ..)
      have hy : y ∈ x :: a := p.mem_iff.mpr (List.mem_cons_self ..)
      rcases List.mem_cons.mp hx with e | hx'
      · exact e
      · rcases List.mem_cons.mp hy with e | hy'
        · exact e.symm
        · exact h x (List.mem_cons_self ..) y hy (h1.1 y hy') (h2.1 x hx')
    subst e
    rw [one_order h1.2 h2.2 (List.perm_cons x |>.mp p) fun u hu v hv => h u (List.mem_cons_of_mem _ hu) v (List.mem_cons_of_mem _ hv)]
/-- no two unlike things of the list are alike to sorted -/
def antiB (ds : List D) : Prop := ∀ x ∈ ds, ∀ y ∈ ds, dLe x y = true → dLe y x = true → x = y
theorem isort_of_perm {ds es : List D} (p : ds.Perm es) (h : antiB ds) : isort ds = isort es := by
  refine one_order (le := fun a b => dLe a b = true) (isort_sorted ds) (isort_sorted es) (((isort_perm ds).trans p).trans (isort_perm es).symm) fun x hx y hy => ?_
  exact h x ((isort_perm ds).mem_iff.mp hx) y ((isort_perm ds).mem_iff.mp hy)
end Dl

set_option maxRecDepth 100000
set_option maxHeartbeats 2000000
/-! sorted of a set, whatever its members are and in whatever order they are walked. -/
namespace Dl
open PySem PySem.Spec L2
open PyProof.Rows hiding St
theorem each_perm {α β : Type} {R : α → β → Prop} {us us' : List α} (p : us'.Perm us) : ∀ {ds : List β}, PySem.W.EachIs R us ds → ∃ ds', PySem.W.EachIs R us' ds' ∧ ds'.Perm ds := by
  induction p with
  | nil => intro ds h; exact ⟨ds, h, List.Perm.refl _⟩
  | cons x _ ih =>
    intro ds h
    cases h with
    | cons h1 h2 =>
      obtain ⟨ds', h3, h4⟩ := ih h2
      exact ⟨_ :: ds', .cons h1 h3, h4.cons _⟩
  | swap x y l =>
    intro ds h
    cases h with
    | cons h1 h2 =>
      cases h2 with
      | cons h3 h4 => exact ⟨_ :: _ :: _, .cons h3 (.cons h1 h4), List.Perm.swap ..⟩
  | trans _ _ ih1 ih2 =>
    intro ds h
    obtain ⟨d1, h1, p1⟩ := ih2 h
    obtain ⟨d2, h2, p2⟩ := ih1 h1
    exact ⟨d2, h2, p2.trans p1⟩
theorem sortB_perm {ds es : List D} (p : ds.Perm es) (h : sortB es = true) : sortB ds = true := by
  unfold sortB at h ⊢
  have e1 : ds.length = es.length := p.length_eq
  have e2 : ∀ f : D → Bool, ds.all f = es.all f := fun f => by
    rw [Bool.eq_iff_iff, List.all_eq_true, List.all_eq_true]
    exact ⟨fun q x hx => q x (p.mem_iff.mpr hx), fun q x hx => q x (p.mem_iff.mp hx)⟩
  rw [e1]
  simp only [e2]
  exact h
section
variable {X : Cx}
theorem sorted_setS {pins : List (Addr × Obj)} {s : Shared} {σ : SSt} {H : Hp} {Q : VK} {a : Addr} {es : Array (Int × Value)} {ep : Nat} {t : SetTable} {xs : List V} {W : Addr → Prop} {ds : List D} (hc : X.calm = true) (hu : X.A.units + 200 < cLine) (I : Inv X pins σ H s)
    (ha : SetAt s.heap a es ep t) (hf : t.fits es.size = true) (hsz : es.size < scanBound) (hr : Ris t.place.toList) (hl : X.w.params.followText "set-order" = true ∨ t.led = true)
    (rv : Vals xs (es.toList.map (·.2))) (w : Wok W H) (ax : DpAll X.K (hid W H) xs ds) (hb : sortB ds = true) (han : antiB ds) (q : ∀ v H', ResF X.K W H H' v (.list (isort ds)) → Q v H') :
    wpAny (model X.prog X.w) X.A (call (.builtin "sorted") [.ref a] []) (EP X pins σ Q) X.xe s := by
  refine call_function_entry_kw kind_sorted plain_sorted entry_sorted (args_sorted1 _) ?_
  unfold Builtin.«sorted»
  refine wpAny_bind (m := checkCount "sorted" 1 1 _) (wpAny_pure ?_)
  refine wpAny_bind (collect_set (A := X.A.in1) (I.ok.hd hc) ha hf hsz hr hl fun s1 vs hk hz hg hos pm => ?_)
  obtain ⟨ds1, er1, pd⟩ := each_perm pm (each_rel ax rv)
  have hb1 := sortB_perm pd hb
  obtain ⟨b1, b2, b3, b4⟩ := sortB_ok hb1
  obtain ⟨xs1, rv1, ax1⟩ := rel_each er1
  have hlen : vs.length = ds1.length := by rw [← rv1.length]; exact DpAll.length ax1
  have hiso : isort ds1 = isort ds := (isort_of_perm pd.symm han).symm
  refine wpAny_bind (wpAny_newList ?_ (by rw [hlen]; exact b1))
  have hat : (s1.heap.push (seqObj "list" vs.toArray 0)).get? s1.heap.objs.size = some (seqObj "list" vs.toArray 0) := Heap.get?_push_size _ rfl
  have keep : ∀ b o', s.heap.get? b = some o' → (PySem.W.sortingHeap (s1.heap.push (seqObj "list" vs.toArray 0)) s1.heap.objs.size vs).get? b = some o' := fun b o' e => by
    have e1 := hk b o' e
    exact PySem.W.sortingHeap_old (Nat.ne_of_lt (Heap.lt_size e1)) (Heap.get?_push_of_some _ e1)
  have er : PySem.W.EachIs (fun v d => ∃ as, Reads (PySem.W.sortingHeap (s1.heap.push (seqObj "list" vs.toArray 0)) s1.heap.objs.size vs) v d as) vs ds1 := er1.mono fun u d ⟨x, r, h⟩ => by
    obtain ⟨as, rr⟩ := Dp.reads I d x u (dp_le h) r
    exact ⟨as, PyProof.Rows.Reads.keeps keep rr⟩
  have hal : PySem.W.AllAlike (ds1.map fun d : D => d) := by rw [List.map_id']; exact b2
  refine wpAny_bind (wpAny_holding (wpAny_call_entry_kw slot_list_sort ⟨_, hat, rfl⟩ entry_list_sort ?body (args_list_sort _)))
  case body =>
    show wpAny (model X.prog X.w) X.A.in1.in1 (Builtin.«list.sort» ⟨[.ref s1.heap.objs.size], []⟩) _ _ _
    refine PySem.W.list_sort_vals (s := { s1 with heap := s1.heap.push (seqObj "list" vs.toArray 0) }) hat
      (PySem.W.SortsAt.data (s := { s1 with heap := PySem.W.sortingHeap (s1.heap.push (seqObj "list" vs.toArray 0)) s1.heap.objs.size vs }) er b2 b3 fun d hd => ?_) (by rw [hlen]; exact b1) ?_
    · have := b4 d hd
      have : X.A.in1.in1.units ≤ X.A.units + 2 := Nat.le_refl _
      omega
    · have h1 := PySem.W.sortVals_data (h' := PySem.W.sortingHeap (s1.heap.push (seqObj "list" vs.toArray 0)) s1.heap.objs.size vs) (R := fun u d => ∃ x : V, RelV x u ∧ Dp X.K (hid W H) x d) (enc := fun d : D => d) false er1 er hal
      rw [← isort_eq, List.map_id', hiso] at h1
      obtain ⟨ys, r2, h2⟩ := rel_each h1
      obtain ⟨ep', he'⟩ := PyProof.Rows.sortedHeap_at (vs := vs) (out := (PySem.W.sortVals (PySem.W.dataKind (PySem.W.sortingHeap (s1.heap.push (seqObj "list" vs.toArray 0)) s1.heap.objs.size vs) ds1) false vs vs).toArray) hat
      have hl2 : ys.length ≤ sizeLine := by
        rw [DpAll.length h2, (isort_perm ds).length_eq, ← pd.length_eq]; exact b1
      refine ⟨_, rfl, wpAny_pure ⟨_, rfl, ?_⟩⟩
      generalize hZ : sortedHeap (s1.heap.push (seqObj "list" vs.toArray 0)) s1.heap.objs.size vs (PySem.W.sortVals (PySem.W.dataKind (PySem.W.sortingHeap (s1.heap.push (seqObj "list" vs.toArray 0)) s1.heap.objs.size vs) ds1) false vs vs).toArray = Z at he'
      have kZ : ∀ b u, s.heap.get? b = some u → Z.get? b = some u := fun b u e => by
        have q1 := hk b u e
        have lt := Heap.lt_size q1
        rw [← hZ, PyProof.Rows.sortedHeap_old (Nat.ne_of_lt lt) (by rw [size_push']; exact Nat.lt_succ_of_lt lt)]
        exact Heap.get?_push_of_some _ q1
      have hn : H s1.heap.objs.size = none := I.hok.fresh hz
      have J : Inv X pins σ (upd H s1.heap.objs.size (.lst ys)) { s with heap := Z, gens := s1.gens, drawn := s1.drawn, toks := s1.toks } :=
        I.call (ch := []) (Un.laid kZ hz hn) (I.hok.laid kZ hz ⟨hl2, _, ep', r2, he'⟩) (by rw [hg]; exact I.bare) (fun _ z => nomatch z)
      have e : ({ s1 with heap := Z } : Shared) = { s with heap := Z, gens := s1.gens, drawn := s1.drawn, toks := s1.toks } := by
        cases s1
        cases s
        cases hos
        rfl
      show EP X pins σ Q (.ref s1.heap.objs.size) { s1 with heap := Z }
      rw [e]
      exact ⟨.ref s1.heap.objs.size, _, J, rfl, q _ _ (ResF.lst w hn h2)⟩
end
end Dl

set_option maxRecDepth 100000
set_option maxHeartbeats 2000000
/-! A set whose members are keys nested in tuples (texts among them): what a search finds. -/
namespace Dl
open PySem PySem.Spec L2
open PyProof.Rows hiding St
abbrev Mem := NestedKey × Addr
def hk (w : World) (m : Mem) : Int := m.1.hash w
def memRow (w : World) (m : Mem) : Int × Value := (hk w m, Value.ref m.2)
structure SetN (P : Program) (w : World) (h : Heap) (a : Addr) (L : List Mem) (es : Array (Int × Value)) (ep : Nat) (t : SetTable) : Prop where
  obj : ∃ o, h.get? a = some o ∧ o.ExactSet ∧ o.data = .set es ep t
  row : es.toList = L.map (memRow w)
  tab : TabOk t (L.map (hk w))
  once : (L.map (·.1)).Nodup
  keys : ∀ m ∈ L, (nestedKind P w).is h m.1 m.2
  led : w.params.followText "set-order" = true ∨ t.led = true
  air : L.length * 5 < t.mask * 3
  few : L.length < 64
/-- the c-th stand of a search -/
abbrev stand (t : SetTable) (z : Int) (c : Nat) : SetTable.Probe := nth t.mask (runAt t.mask (SetTable.bits z % (t.mask + 1)) (SetTable.bits z)) c
theorem stand_plus (t : SetTable) (z : Int) (c q : Nat) : nth t.mask (stand t z c) q = stand t z (c + q) := (nth_add t.mask c _ q).symm
theorem nth_dummy (m : Nat) : ∀ (n : Nat) (p : SetTable.Probe), (nth m p n).dummy = p.dummy
  | 0, _ => rfl
  | n + 1, p => (nth_dummy m n _).trans (by unfold adv; split <;> rfl)
/-- from the c-th stand on: the next place with that hash, or the first free one -/
theorem probe_on {t : SetTable} (ris : Ris t.place.toList) (nd : t.dummies = #[]) (at? : Nat → Int) (z : Int) {K c : Nat} (hK : K < 10 * SetTable.turns t.mask) (free : way t.mask z K ∉ t.place.toList)
    (full : ∀ q, q < K → way t.mask z q ∈ t.place.toList) (hc : c ≤ K) :
    (∃ q i, c ≤ q ∧ q < K ∧ t.place.toList[i]? = some (way t.mask z q) ∧ at? i = z ∧ (∀ r j, c ≤ r → r < q → t.place.toList[j]? = some (way t.mask z r) → at? j ≠ z) ∧
      t.probe at? z (stand t z c) = some (.candidate (way t.mask z q) i (stand t z (q + 1)))) ∨
    ((∀ r j, c ≤ r → r < K → t.place.toList[j]? = some (way t.mask z r) → at? j ≠ z) ∧ t.probe at? z (stand t z c) = some (.empty (way t.mask z K) none)) := by
  have jj : ∀ q, (nth t.mask (stand t z c) q).j = way t.mask z (c + q) := fun q => congrArg SetTable.Probe.j (stand_plus t z c q)
  have back : ∀ r, c ≤ r → c + (r - c) = r := fun r h => by omega
  have := go_spec t ris nd at? z (10 * SetTable.turns t.mask) (K - c) (stand t z c) (nth_dummy _ _ _) (by omega) (fun q hq => by rw [jj]; exact full _ (by omega)) (by rw [jj, back K hc]; exact free)
  rcases this with ⟨q, i, a1, a2, a3, a4, a5⟩ | ⟨a4, a5⟩
  · refine .inl ⟨c + q, i, by omega, by omega, by rw [← jj]; exact a2, a3, fun r j h1 h2 h3 => a4 (r - c) j (by omega) (by rw [jj, back r h1]; exact h3), ?_⟩
    rw [← jj, show c + q + 1 = c + (q + 1) from rfl, ← stand_plus]
    exact a5
  · refine .inr ⟨fun r j h1 h2 h3 => a4 (r - c) j (by omega) (by rw [jj, back r h1]; exact h3), ?_⟩
    have e := jj (K - c)
    rw [back K hc] at e
    rw [← e]
    exact a5
section
variable {P : Program} {w : World} {A : Around} {E : Value → Shared → Prop} {s : Shared} {a b : Addr} {L : List Mem} {es : Array (Int × Value)} {ep : Nat} {t : SetTable} {k : NestedKey}
theorem SetN.n (R : SetN P w s.heap a L es ep t) : es.size = L.length := by
  rw [← Array.length_toList, R.row, List.length_map]
theorem SetN.holds (R : SetN P w s.heap a L es ep t) : t.fits es.size = true := by
  have e := R.tab.sz
  have e2 := R.n
  have e3 := R.air
  rw [List.length_map] at e
  show (t.place.size == es.size && decide (t.place.size + t.dummies.size ≤ t.mask)) = true
  rw [R.tab.dm]
  simp only [Bool.and_eq_true, beq_iff_eq, decide_eq_true_eq]
  exact ⟨by omega, by show t.place.size + 0 ≤ _; omega⟩
theorem SetN.at (R : SetN P w s.heap a L es ep t) {i : Nat} {m : Mem} (e : L[i]? = some m) : es[i]? = some (memRow w m) := by
  rw [← Array.getElem?_toList, R.row, List.getElem?_map, e, Option.map_some]
theorem SetN.sound (R : SetN P w s.heap a L es ep t) : t.gaveWay = false := by
  unfold SetTable.gaveWay
  rw [mask_odd R.tab.mok]
  rfl
theorem SetN.place (R : SetN P w s.heap a L es ep t) {i j : Nat} (e : t.place.toList[i]? = some j) : ∃ m, L[i]? = some m := by
  have h1 := (List.getElem?_eq_some_iff.mp e).1
  have h2 := R.tab.sz
  rw [List.length_map] at h2
  rw [Array.length_toList, h2] at h1
  exact ⟨_, List.getElem?_eq_getElem h1⟩
theorem nest_room (hu : A.units + 9 < cLine) : (nestedKind P w).room A := by
  show A.units + 8 < cLine
  omega
/-- the search for a key, from its c-th stand on -/
theorem seek_on (R : SetN P w s.heap a L es ep t) (hb : (nestedKind P w).is s.heap k b) (hu : A.units + 9 < cLine) {K : Nat} (hK : K < 10 * SetTable.turns t.mask) (free : way t.mask (k.hash w) K ∉ t.place.toList)
    (full : ∀ q, q < K → way t.mask (k.hash w) q ∈ t.place.toList) {Q : SetFound → Shared → Prop} (yes : k ∈ L.map (·.1) → Q (.there none) s) (no : k ∉ L.map (·.1) → Q (.free (way t.mask (k.hash w) K) false) s) :
    ∀ (f c : Nat) (o : Option SetTable.Probe), o.getD (t.probeStart (k.hash w)) = stand t (k.hash w) c → c ≤ K → K < c + f →
      (∀ (i : Nat) (m : Mem), L[i]? = some m → m.1 = k → ∃ r, c ≤ r ∧ r < K ∧ t.place.toList[i]? = some (way t.mask (k.hash w) r)) → wpAny (model P w) A (setSearchFrom a (.ref b) (k.hash w) true f o) Q E s := by
  intro f
  induction f with
  | zero => intro c o _ h1 h2; omega
  | succ f ih =>
    intro c o ho h1 h2 left
    obtain ⟨ob, g1, g2, g3⟩ := R.obj
    have know : ∀ {i : Nat} {m : Mem}, L[i]? = some m → (es[i]?.map (·.1)).getD 0 = hk w m := fun e => by rw [R.at e]; rfl
    rw [setSearchFrom_succ]
    refine wpAny_bind (wpAny_setState_of g1 g3 R.holds ?_)
    dsimp only
    refine wp_if_neg (by rw [R.sound]; exact Bool.false_ne_true) ?_
    try refine wpAny_bind (wpAny_pure ?_)
    rw [ho]
    rcases probe_on R.tab.ris R.tab.dm (fun i => (es[i]?.map (·.1)).getD 0) (k.hash w) hK free full h1 with ⟨q, i, b1, b2, b3, b4, b5, b6⟩ | ⟨b5, b6⟩
    · rw [b6]
      dsimp only
      obtain ⟨m, hm⟩ := R.place b3
      have hmL := List.mem_of_getElem? hm
      have after : wpAny (model P w) A (searchRest a (.ref b) (k.hash w) true f es t (way t.mask (k.hash w) q) i (stand t (k.hash w) (q + 1))) Q E s := by
        unfold searchRest
        rw [R.at hm]
        dsimp only [memRow]
        refine wpAny_bind (wpAny_holding ((nestedKind P w).eqBool (nest_room hu) (R.keys m hmL) hb ?_))
        refine wpAny_bind (wpAny_setState_of g1 g3 R.holds ?_)
        dsimp only
        by_cases e : m.1 = k
        · refine wp_if_pos (by simp [e]) (wpAny_pure (yes (List.mem_map.mpr ⟨m, hmL, e⟩)))
        · refine wp_if_neg (by simp [e]) ?_
          try refine wpAny_bind (wpAny_pure ?_)
          rw [L2.sameMem]
          dsimp only
          have live := slot_live R.tab.ris b3
          simp only [if_true, live, R.at hm]
          dsimp only [memRow]
          refine wpAny_bind (wpAny_isSame_ref_self (wpAny_bind (wpAny_pure ?_)))
          simp only [if_true]
          refine wp_if_neg (by simp [e]) (ih (q + 1) _ rfl (by omega) (by omega) fun i' m' e1 e2 => ?_)
          obtain ⟨r, c1, c2, c3⟩ := left i' m' e1 e2
          refine ⟨r, ?_, c2, c3⟩
          by_cases lt : r < q
          · refine absurd ?_ (b5 r i' c1 lt c3)
            rw [know e1]
            exact congrArg (fun x => NestedKey.hash w x) e2
          · by_cases eq : r = q
            · subst eq
              have := slot_live R.tab.ris c3
              rw [live] at this
              injection this with this
              subst this
              rw [hm] at e1
              exact absurd (by rw [Option.some.inj e1]; exact e2) e
            · omega
      by_cases ld : t.led = true
      · refine wp_if_neg (by simp [ld]) ?_
        try refine wpAny_bind (wpAny_pure ?_)
        exact after
      · refine wp_if_pos (by simp [ld]) (wpAny_bind (seen_key hb (fun y hy => ?_) ?_))
        · obtain ⟨r, hr, er⟩ := List.mem_map.mp hy
          have hr : r ∈ es.toList := by
            have := (show r ∈ es ∧ r.1 = k.hash w by simpa using hr).1
            simpa using this
          rw [R.row] at hr
          obtain ⟨m', hm', em'⟩ := List.mem_map.mp hr
          subst em'
          exact ⟨m'.1, m'.2, er.symm, R.keys m' hm'⟩
        · refine wp_if_neg Bool.false_ne_true ?_
          try refine wpAny_bind (wpAny_pure ?_)
          exact after
    · rw [b6]
      dsimp only
      refine wpAny_pure (no fun hin => ?_)
      obtain ⟨m, hm, em⟩ := List.mem_map.mp hin
      obtain ⟨i, hi, ei⟩ := List.getElem_of_mem hm
      have hg : L[i]? = some m := by rw [List.getElem?_eq_getElem hi, ei]
      obtain ⟨r, c1, c2, c3⟩ := left i m hg em
      refine b5 r i c1 c2 c3 ?_
      rw [know hg]
      exact congrArg (fun x => NestedKey.hash w x) em
/-- the search of adding -/
theorem seek (R : SetN P w s.heap a L es ep t) (hb : (nestedKind P w).is s.heap k b) (hu : A.units + 9 < cLine) {Q : SetFound → Shared → Prop} (yes : k ∈ L.map (·.1) → Q (.there none) s)
    (no : ∀ K, k ∉ L.map (·.1) → way t.mask (k.hash w) K ∉ t.place.toList → (∀ q, q < K → way t.mask (k.hash w) q ∈ t.place.toList) → Q (.free (way t.mask (k.hash w) K) false) s) :
    wpAny (model P w) A (setSearch a (.ref b) (k.hash w) true) Q E s := by
  have air := R.air
  obtain ⟨K, k1, k2, k3⟩ := R.tab.first (by rw [List.length_map]; omega) (k.hash w)
  have le : 10 * SetTable.turns t.mask ≤ 1500 := by
    unfold SetTable.turns
    rcases R.tab.mok with e | e | e <;> rw [e] <;> decide
  unfold setSearch
  refine seek_on R hb hu k1 k2 k3 yes (fun n => no K n k2 k3) 100000 0 none rfl (Nat.zero_le _) (by omega) fun i m e1 e2 => ?_
  have hz : (L.map (hk w))[i]? = some (k.hash w) := by
    rw [List.getElem?_map, e1, ← e2]
    rfl
  have hi : i < t.place.toList.length := by
    have := R.tab.sz
    rw [List.length_map] at this
    rw [Array.length_toList, this]
    exact (List.getElem?_eq_some_iff.mp e1).1
  obtain ⟨r, r1, r2⟩ := R.tab.before k2 hz (List.getElem?_eq_getElem hi)
  exact ⟨r, Nat.zero_le _, r1, by rw [List.getElem?_eq_getElem hi, r2]⟩
end
end Dl

set_option maxRecDepth 100000
set_option maxHeartbeats 2000000
/-! Such a set grows. -/
namespace Dl
open PySem PySem.Spec L2
open PyProof.Rows hiding St
theorem fm_range {α : Type} (l : List α) : (List.range l.length).filterMap (fun i => l[i]?) = l := by
  induction l with
  | nil => rfl
  | cons x l ih =>
    rw [List.length_cons, List.range_succ_eq_map, List.filterMap_cons]
    simp only [List.getElem?_cons_zero, List.filterMap_map]
    congr 1
theorem fm_perm {α : Type} {l : List α} {o : List Nat} (p : o.Perm (List.range l.length)) : (o.filterMap fun i => l[i]?).Perm l := by
  have := p.filterMap fun i => l[i]?
  rwa [fm_range] at this
theorem fm_map {α β : Type} (f : α → β) (l : List α) : ∀ o : List Nat, o.filterMap (fun i => (l.map f)[i]?) = (o.filterMap fun i => l[i]?).map f
  | [] => rfl
  | i :: o => by
    rw [List.filterMap_cons, List.filterMap_cons, List.getElem?_map]
    cases e : l[i]? with
    | none => simp only [Option.map_none]; exact fm_map f l o
    | some x => simp only [Option.map_some, List.map_cons]; rw [fm_map f l o]
theorem fm_getD {β : Type} (d : β) (l : List β) : ∀ o : List Nat, (∀ i ∈ o, i < l.length) → o.filterMap (fun i => l[i]?) = o.map fun i => l.getD i d
  | [], _ => rfl
  | i :: o, h => by
    have hi := h i (List.mem_cons_self ..)
    rw [List.filterMap_cons_some (List.getElem?_eq_getElem hi), List.map_cons, fm_getD d l o fun j hj => h j (List.mem_cons_of_mem _ hj)]
    congr 1
    simp [List.getD_eq_getElem?_getD, List.getElem?_eq_getElem hi]
theorem spread {α : Type} (L : List α) (n : Nat) (x : α) : (L.take n ++ x :: L.drop n).Perm (x :: L) := by
  have e : L.take n ++ L.drop n = L := List.take_append_drop n L
  exact (List.perm_middle (a := x) (l₁ := L.take n) (l₂ := L.drop n)).trans (by rw [e])
section
variable {P : Program} {w : World} {A : Around} {E : Value → Shared → Prop} {s : Shared} {a b : Addr} {L : List Mem} {es : Array (Int × Value)} {ep : Nat} {t : SetTable} {k : NestedKey}
/-- a key's tuple is not the set -/
theorem key_but {h h' : Heap} {k : NestedKey} {b a : Addr} {o : Obj} (x : (nestedKind P w).is h k b) (ho : h.get? a = some o) (hd : o.data = .set es ep t) (sb : Heap.SameBut a h h') : (nestedKind P w).is h' k b :=
  nestedKind_stays.stays (fun c oc vs n e1 e2 => by
    by_cases z : c = a
    · subst z
      rw [ho] at e1
      cases e1
      rw [hd] at e2
      cases e2
    · rw [sb.2 c z]; exact e1) x
theorem key_keep {h h' : Heap} {k : NestedKey} {b : Addr} (x : (nestedKind P w).is h k b) (hk : ∀ c o, h.get? c = some o → h'.get? c = some o) : (nestedKind P w).is h' k b :=
  nestedKind_stays.stays (fun c o _ _ e _ => hk c o e) x
/-- a table with these places serves the rows -/
structure Laid (w : World) (L : List Mem) (es : Array (Int × Value)) (t : SetTable) : Prop where
  row : es.toList = L.map (memRow w)
  tab : TabOk t (L.map (hk w))
theorem Laid.fits {es : Array (Int × Value)} (l : Laid w L es t) (h : L.length ≤ t.mask) : t.fits es.size = true := by
  have e := l.tab.sz
  have e2 : es.size = L.length := by rw [← Array.length_toList, l.row, List.length_map]
  rw [List.length_map] at e
  show (t.place.size == es.size && decide (t.place.size + t.dummies.size ≤ t.mask)) = true
  rw [l.tab.dm]
  simp only [Bool.and_eq_true, beq_iff_eq, decide_eq_true_eq]
  exact ⟨by omega, by show t.place.size + 0 ≤ _; omega⟩
/-- a larger table is laid -/
theorem larger {o : Obj} (ho : s.heap.get? a = some o) (hx : o.ExactSet) (hd : o.data = .set es ep t) (ld : Laid w L es t) (hm : L.length ≤ t.mask) (one : (L.map (·.1)).Nodup) (key : ∀ m ∈ L, (nestedKind P w).is s.heap m.1 m.2)
    (led : w.params.followText "set-order" = true ∨ t.led = true) (few : L.length < 64) {n M : Nat} (hn : SetTable.sizeAbove n = M + 1) (hM : MaskOk M) (air : L.length * 5 < M * 3) {Q : Unit → Shared → Prop}
    (q : ∀ h' L' es' ep' t', Heap.SameBut a s.heap h' → SetN P w h' a L' es' ep' t' → L'.Perm L → Q () { s with heap := h' }) : wpAny (model P w) A (setRelay a n) Q E s := by
  have sz : es.size = L.length := by rw [← Array.length_toList, ld.row, List.length_map]
  have hs : (es.map (·.1)).toList = L.map (hk w) := by
    rw [Array.toList_map, ld.row, List.map_map]
    rfl
  obtain ⟨t', ord, e1, e2, e3, e4, e5, _, _⟩ := relaid_ok t (hs := es.map (·.1)) (wanted := n) (M := M) (by omega) hM (by rw [Array.size_map]; omega)
  rw [Array.size_map, sz] at e2
  have inr : ∀ i ∈ ord.toList, i < L.length := fun i hi => List.mem_range.mp (e2.mem_iff.mp hi)
  have rows : (ord.filterMap (es[·]?)).toList = (ord.toList.filterMap fun i => L[i]?).map (memRow w) := by
    rw [Array.toList_filterMap, ← fm_map]
    congr 1
    funext i
    rw [← ld.row, Array.getElem?_toList]
  have hsh : (ord.toList.map fun i => (es.map (·.1)).getD i 0) = (ord.toList.filterMap fun i => L[i]?).map (hk w) := by
    rw [← fm_map, fm_getD (0 : Int) (L.map (hk w)) ord.toList fun i hi => by rw [List.length_map]; exact inr i hi]
    congr 1
    funext i
    rw [← hs]
    simp [Array.getD_eq_getD_getElem?, List.getD_eq_getElem?_getD]
  rw [hsh] at e3
  have pm := fm_perm e2
  generalize (ord.toList.filterMap fun i => L[i]?) = L2 at rows e3 pm
  have sz2 : (ord.filterMap (es[·]?)).size = es.size := by rw [← Array.length_toList, rows, List.length_map, pm.length_eq, sz]
  have mb : M ≤ 127 := by rcases hM with e | e | e <;> omega
  rw [setRelay_eq]
  refine wpAny_bind (wpAny_setState_of ho hd (ld.fits hm) ?_)
  dsimp only
  refine wp_if_neg (by rw [sizeLine_eq, hn]; omega) ?_
  try refine wpAny_bind (wpAny_pure ?_)
  rw [e1]
  dsimp only
  refine wpAny_bind (wp_if_neg (by rw [sz2]; simp) ?_)
  try refine wpAny_bind (wpAny_pure ?_)
  refine wpAny_pure ?_
  dsimp only
  have sb : Heap.SameBut a s.heap (s.heap.update a (Obj.putSet (ord.filterMap (es[·]?)) t')) := Heap.SameBut.update ..
  refine wpAny_storeSet_of ho hd (q _ L2 _ (ep + 1) t' sb ⟨⟨_, store_at ho hd, ⟨hx.1, hx.2.1, hx.2.2⟩, rfl⟩, rows, e3, (pm.map (·.1)).nodup_iff.mpr one, fun m hm => key_but (key m (pm.mem_iff.mp hm)) ho hd sb, by rw [e5]; exact led, by rw [pm.length_eq, e4]; exact air, by rw [pm.length_eq]; exact few⟩ pm) (by rw [sz2, sz, sizeLine_eq]; omega)
theorem grown_of {n : Nat} (h : n = 5 ∨ n = 19) : ∃ M, SetTable.sizeAbove (SetTable.grown n) = M + 1 ∧ MaskOk M ∧ n * 5 < M * 3 := by
  rcases h with e | e
  · subst e; exact ⟨31, by decide +kernel, .inr (.inl rfl), by decide⟩
  · subst e; exact ⟨127, by decide +kernel, .inr (.inr rfl), by decide⟩
/-- a key is added -/
theorem add_key (R : SetN P w s.heap a L es ep t) (hb : (nestedKind P w).is s.heap k b) (hu : A.units + 9 < cLine) (few : k ∉ L.map (·.1) → L.length + 1 < 64) {Q : Bool → Shared → Prop}
    (q : ∀ c h' L' es' ep' t', Heap.SameBut a s.heap h' → SetN P w h' a L' es' ep' t' → (k ∈ L.map (·.1) → L' = L) → (k ∉ L.map (·.1) → L'.Perm ((k, b) :: L)) → Q c { s with heap := h' }) :
    wpAny (model P w) A (setAddHashed a (.ref b) (k.hash w) ) Q E s := by
  obtain ⟨o, ho, hx, hd⟩ := R.obj
  have air := R.air
  unfold setAddHashed
  refine wpAny_holding ?_
  rw [show (100000 : Nat) = 99999 + 1 from rfl, setAddHashedIn_succ]
  refine wpAny_bind (wpAny_setState_of ho hd R.holds ?_)
  dsimp only
  refine wp_if_neg (by simp [byScan, Value.scannable]) ?_
  try refine wpAny_bind (wpAny_pure ?_)
  refine wpAny_bind (seek R hb hu (fun hin => ?_) fun K hout free full => ?_)
  · exact wpAny_pure (q false s.heap L es ep t (Heap.SameBut.refl a s.heap) R (fun _ => rfl) fun z => absurd hin z)
  dsimp only
  refine wpAny_bind (wpAny_setState_of ho hd R.holds ?_)
  dsimp only
  obtain ⟨p1, p2, p3, p4, p5, p6, p7, p8, p9⟩ := R.tab.put free full
  rcases hput : t.put (way t.mask (k.hash w) K) with ⟨t1, n1⟩
  rw [hput] at p1 p3 p4 p5 p6 p7 p8 p9
  dsimp only at p1 p3 p4 p5 p6 p7 p8 p9 ⊢
  obtain ⟨v, hv⟩ := hashes_key (prog := P) (w := w) k (.ref b) 8 s hb.1 hb.2
  -- whether it is by value or not: the places are the same
  have onward : ∀ t2 : SetTable, t2.place = t1.place → t2.dummies = t1.dummies → t2.mask = t1.mask → t2.led = t1.led → t2.tooFull = t1.tooFull →
      wpAny (model P w) A (do
        storeSet a (SetTable.insertAt es n1 (k.hash w, .ref b)) t2
        if !false && t2.tooFull then setRelay a (SetTable.grown (es.size + 1))
        return true) Q E s := fun t2 c1 c2 c3 c4 c5 => by
    have T2 : TabOk t2 ((L.take n1 ++ (k, b) :: L.drop n1).map (hk w)) := by
      have e : (L.take n1 ++ (k, b) :: L.drop n1).map (hk w) = (L.map (hk w)).take n1 ++ k.hash w :: (L.map (hk w)).drop n1 := by
        rw [List.map_append, List.map_cons, List.map_take, List.map_drop]
        rfl
      rw [e, p1]
      exact ⟨by rw [c1]; exact p3.ris, by rw [c2]; exact p3.dm, by rw [c1]; exact p3.sz, by rw [c3]; exact p3.mok, by rw [c1, c3]; exact p3.bd, by rw [c1, c3]; exact p3.reach⟩
    have row2 : (SetTable.insertAt es n1 (k.hash w, Value.ref b)).toList = (L.take n1 ++ (k, b) :: L.drop n1).map (memRow w) := by
      rw [SetTable.toList_insertAt, R.row, List.map_append, List.map_cons, List.map_take, List.map_drop]
      rfl
    have pm := spread L n1 (k, b)
    generalize SetTable.insertAt es n1 (k.hash w, Value.ref b) = es2 at row2 ⊢
    generalize L.take n1 ++ (k, b) :: L.drop n1 = L2 at T2 row2 pm
    have len2 : L2.length = L.length + 1 := pm.length_eq
    have sz2 : es2.size = L.length + 1 := by rw [← Array.length_toList, row2, List.length_map, len2]
    have one2 : (L2.map (·.1)).Nodup := (pm.map (·.1)).nodup_iff.mpr (List.nodup_cons.mpr ⟨hout, R.once⟩)
    have fw := few hout
    refine wpAny_bind (wpAny_storeSet_of ho hd ?_ (by rw [sz2, sizeLine_eq]; omega))
    have sb : Heap.SameBut a s.heap (s.heap.update a (Obj.putSet es2 t2)) := Heap.SameBut.update ..
    have ho2 := store_at (es' := es2) (t' := t2) ho hd
    generalize s.heap.update a (Obj.putSet es2 t2) = h2 at sb ho2 ⊢
    have key2 : ∀ m ∈ L2, (nestedKind P w).is h2 m.1 m.2 := fun m hm => by
      rcases List.mem_cons.mp (pm.mem_iff.mp hm) with e | hm
      · rw [e]; exact key_but hb ho hd sb
      · exact key_but (R.keys m hm) ho hd sb
    have led2 : w.params.followText "set-order" = true ∨ t2.led = true := by rw [c4, p5]; exact R.led
    have msk : t2.mask = t.mask := c3.trans p4
    have full2 : t2.tooFull = decide ((L.length + 1) * 5 ≥ t.mask * 3) := by
      rw [c5]
      unfold SetTable.tooFull
      rw [p9, p4, List.length_map]
    by_cases tf : (L.length + 1) * 5 ≥ t.mask * 3
    · have tf' : t2.tooFull = true := by rw [full2]; exact decide_eq_true tf
      have g : L.length + 1 = 5 ∨ L.length + 1 = 19 := by
        rcases R.tab.mok with e | e | e <;> rw [e] at tf air <;> omega
      obtain ⟨M, g1, g2, g3⟩ := grown_of g
      have lay : wpAny (model P w) A (setRelay a (SetTable.grown (es.size + 1))) (fun _ s' => wpAny (model P w) A (pure true) Q E s') E { s with heap := h2 } := by
        rw [R.n]
        refine larger (s := { s with heap := h2 }) ho2 ⟨hx.1, hx.2.1, hx.2.2⟩ rfl ⟨row2, T2⟩ (by rw [len2, msk]; rcases R.tab.mok with e | e | e <;> rw [e] at air ⊢ <;> omega) one2 key2 led2 (by rw [len2]; exact fw) g1 g2 (by rw [len2]; exact g3) fun h3 L3 es3 ep3 t3 sb3 R3 pm3 => ?_
        exact wpAny_pure (q true h3 L3 es3 ep3 t3 (sb.trans sb3) R3 (fun z => absurd z hout) fun _ => pm3.trans pm)
      first
        | exact wpAny_bind (wp_if_pos (by simp [tf']) lay)
        | exact wp_if_pos (by simp [tf']) (wpAny_bind lay)
    · have tf' : t2.tooFull = false := by rw [full2]; exact decide_eq_false tf
      have fin : wpAny (model P w) A (pure true) Q E { s with heap := h2 } :=
        wpAny_pure (q true h2 L2 es2 (ep + 1) t2 sb ⟨⟨_, ho2, ⟨hx.1, hx.2.1, hx.2.2⟩, rfl⟩, row2, T2, one2, key2, led2, by rw [len2, msk]; omega, by rw [len2]; exact fw⟩ (fun z => absurd z hout) fun _ => pm)
      first
        | exact wp_if_neg (by simp [tf']) (by first | exact fin | exact wpAny_bind (wpAny_pure fin))
        | exact wpAny_bind (wp_if_neg (by simp [tf']) (wpAny_pure fin))
  by_cases pl : t1.plain = true
  · have go : wpAny (model P w) A (hashByValue 8 (.ref b)) (fun c s' => wpAny (model P w) A (do
        storeSet a (SetTable.insertAt es n1 (k.hash w, .ref b)) (if c = true then t1 else { t1 with plain := false })
        if !false && (if c = true then t1 else { t1 with plain := false }).tooFull then setRelay a (SetTable.grown (es.size + 1))
        return true) Q E s') E s := hv _ _ _ (by
      cases v with
      | true => exact onward t1 rfl rfl rfl rfl rfl
      | false => exact onward { t1 with plain := false } rfl rfl rfl rfl rfl)
    first
      | exact wpAny_bind (wp_if_pos pl go)
      | exact wp_if_pos pl (wpAny_bind go)
  · first
      | exact wpAny_bind (wp_if_neg pl (wpAny_pure (onward t1 rfl rfl rfl rfl rfl)))
      | exact wp_if_neg pl (wpAny_bind (wpAny_pure (onward t1 rfl rfl rfl rfl rfl)))
      | exact wp_if_neg pl (onward t1 rfl rfl rfl rfl rfl)
end
end Dl

set_option maxRecDepth 100000
set_option maxHeartbeats 4000000
/-! set(xs), xs a list of such keys; sorted of it. -/
namespace Dl
open PySem PySem.Spec L2
open PyProof.Rows hiding St
/-- L has the keys of these members, each once -/
structure Once (ms L : List Mem) : Prop where
  sub : ∀ m ∈ L, m ∈ ms
  all : ∀ m ∈ ms, m.1 ∈ L.map (·.1)
theorem Once.step {ms L L' : List Mem} {m : Mem} (o : Once ms L) (y : m.1 ∈ L.map (·.1) → L' = L) (n : m.1 ∉ L.map (·.1) → L'.Perm ((m.1, m.2) :: L)) : Once (ms ++ [m]) L' := by
  by_cases h : m.1 ∈ L.map (·.1)
  · rw [y h]
    refine ⟨fun x hx => List.mem_append_left _ (o.sub x hx), fun x hx => ?_⟩
    rcases List.mem_append.mp hx with hx | hx
    · exact o.all x hx
    · rw [List.mem_singleton.mp hx]; exact h
  · have p := n h
    refine ⟨fun x hx => ?_, fun x hx => (p.map (·.1)).mem_iff.mpr ?_⟩
    · rcases List.mem_cons.mp (p.mem_iff.mp hx) with e | hx
      · rw [e]; exact List.mem_append_right _ (List.mem_singleton.mpr rfl)
      · exact List.mem_append_left _ (o.sub x hx)
    · rcases List.mem_append.mp hx with hx | hx
      · exact List.mem_cons_of_mem _ (o.all x hx)
      · rw [List.mem_singleton.mp hx]; exact List.mem_cons_self ..
/-- so few unlike ones -/
def Few (ms : List Mem) : Prop := ∀ L : List Mem, (L.map (·.1)).Nodup → (∀ m ∈ L, m ∈ ms) → L.length < 64
section
variable {P : Program} {w : World} {A : Around} {E : Value → Shared → Prop} {s : Shared}
abbrev newSet (w : World) : Obj := { cls := .type "set", dict := none, data := .set #[] 0 (.fresh 0 0 (!w.params.followText "set-order")) }
theorem setN_new {h : Heap} {a : Addr} (ho : h.get? a = some (newSet w)) : SetN P w h a [] #[] 0 (.fresh 0 0 (!w.params.followText "set-order")) :=
  ⟨⟨_, ho, ⟨rfl, rfl, rfl⟩, rfl⟩, rfl, ⟨List.Pairwise.nil, rfl, rfl, .inl rfl, fun _ z => (nomatch z), fun _ _ _ z => by simp at z⟩, List.nodup_nil, fun _ z => (nomatch z),
    by show _ ∨ (!w.params.followText "set-order") = true; cases w.params.followText "set-order" <;> simp, by show 0 * 5 < 7 * 3; decide, by decide⟩
theorem SetN.on {h h' : Heap} {a : Addr} {L : List Mem} {es : Array (Int × Value)} {ep : Nat} {t : SetTable} (R : SetN P w h a L es ep t) (ha : ∀ o, h.get? a = some o → h'.get? a = some o) (hm : ∀ m ∈ L, (nestedKind P w).is h' m.1 m.2) : SetN P w h' a L es ep t :=
  let ⟨o, ho, r⟩ := R.obj
  ⟨⟨o, ha o ho, r⟩, R.row, R.tab, R.once, hm, R.led, R.air, R.few⟩
/-- the loop that fills the set -/
theorem fill {it S : Addr} {fp wr : List Addr} {G : Array GenState → Array GenState → Prop} {n : Nat} {Pv : Nat → Value → Prop} {St : Nat → Shared → Prop} {R : Result → Shared → Prop} (W : WalksS P w A.in1 it fp wr G n Pv St) (hS : S ∉ fp) {ms : List Mem} (hn : ms.length = n) (few : Few ms)
    (item : ∀ i v, Pv i v → ∃ m, ms[i]? = some m ∧ v = .ref m.2) (h0 : Heap) (key : ∀ m ∈ ms, (nestedKind P w).is h0 m.1 m.2) (hS0 : h0.get? S = none) (hw : ∀ b ∈ wr, h0.get? b = none) (hu : A.in1.units + 9 < cLine)
    (fin : ∀ s' L es ep t, SetN P w s'.heap S L es ep t → Once ms L → (∀ b o, h0.get? b = some o → s'.heap.get? b = some o) → ∀ s0, Moved (S :: wr) G s0 s' → s0 = s → R (.ok (.ret .none)) s') :
    ∀ (k i : Nat) (s1 : Shared), i + k = n → St i s1 → Moved (S :: wr) G s s1 → (∀ b o, h0.get? b = some o → s1.heap.get? b = some o) → (∃ L es ep t, SetN P w s1.heap S L es ep t ∧ Once (ms.take i) L) →
      codeAny (model P w) A (.builtin "set.update.loop" ⟨[.ref S, .ref it], []⟩) R s1 := by
  have nS : S ∉ wr := fun h => hS (W.sub _ h)
  have stays : ∀ {s1 s2 : Shared}, Moved wr G s1 s2 → (∀ b o, h0.get? b = some o → s1.heap.get? b = some o) → ∀ b o, h0.get? b = some o → s2.heap.get? b = some o := fun m f b o e => m.heap b o (fun z => by rw [hw b z] at e; cases e) (f b o e)
  have wide : ∀ {s1 s2 : Shared}, Moved wr G s1 s2 → Moved (S :: wr) G s1 s2 := fun m => m.mono fun b hb => List.mem_cons_of_mem _ hb
  intro k
  induction k with
  | zero =>
    intro i s1 hi st mv f ⟨L, es, ep, t, hR, on⟩
    have hi : i = n := hi
    subst hi
    refine codeAny_builtin F.entry_set_update_loop ?_
    rw [Around.under_plainId F.plain_set_update_loop _]
    refine wpAny_bind (M := model P w) (m := pyNext (.ref it)) (W.done s1 _ _ st fun s2 m => ?_)
    have f2 := stays m f
    rw [List.take_of_length_le (Nat.le_of_eq hn)] at on
    exact wpAny_pure (fin s2 L es ep t (hR.on (fun o => m.heap S o nS) fun x hx => key_keep (key x (on.sub x hx)) f2) on f2 s (Moved.trans W.gtrans mv (wide m)) rfl)
  | succ k ih =>
    intro i s1 hi st mv f ⟨L, es, ep, t, hR, on⟩
    refine codeAny_builtin F.entry_set_update_loop ?_
    rw [Around.under_plainId F.plain_set_update_loop _]
    refine wpAny_bind (M := model P w) (m := pyNext (.ref it)) (W.item i s1 _ _ (by omega) st fun v s2 hv st2 m => ?_)
    obtain ⟨x, hx, rfl⟩ := item i v hv
    have xm := List.mem_of_getElem? hx
    have f2 := stays m f
    have sub : ∀ y ∈ L, y ∈ ms := fun y hy => List.mem_of_mem_take (on.sub y hy)
    have hR2 : SetN P w s2.heap S L es ep t := hR.on (fun o => m.heap S o nS) fun y hy => key_keep (key y (sub y hy)) f2
    refine wpAny_bind (M := model P w) (m := holding [Value.ref x.2] (setAdd S (.ref x.2))) (wpAny_holding ?_)
    unfold setAdd
    refine wpAny_holding (wpAny_bind ((nestedKind P w).pyHash (nest_room hu) (key_keep (key x xm) f2) ?_))
    refine add_key (s := { s2 with toks := s2.toks + (nestedKind P w).draws x.1 }) hR2 (key_keep (key x xm) f2) hu (fun out => ?_) fun c h3 L3 es3 ep3 t3 sb hR3 yes no => ?_
    · have := few ((x.1, x.2) :: L) (List.nodup_cons.mpr ⟨out, hR2.once⟩) fun y hy => by
        rcases List.mem_cons.mp hy with e | hy
        · rw [e]; exact xm
        · exact sub y hy
      exact this
    have f3 : ∀ b o, h0.get? b = some o → h3.get? b = some o := fun b o e => by
      rw [sb.2 b fun z => by rw [z, hS0] at e; cases e]
      exact f2 b o e
    refine wpAny_pure ⟨plainId_quiet F.plain_set_update_loop _, ih (i + 1) _ (by omega) (W.frame _ s2 _ _ st2 (Nat.le_add_right ..) fun b hb o e => ?_) ?_ f3 ⟨L3, es3, ep3, t3, hR3, ?_⟩⟩
    · rw [sb.2 b fun z => hS (z ▸ hb)]; exact e
    · exact Moved.trans W.gtrans mv ((wide m).then_heap (Nat.le_add_right ..) fun b o hb e => by rw [sb.2 b fun z => hb (z ▸ List.mem_cons_self ..)]; exact e)
    · have e : ms.take (i + 1) = ms.take i ++ [x] := by
        rw [List.take_succ, hx]
        rfl
      rw [e]
      exact on.step yes no
end
end Dl

/-! How many words have so many of each sign. No program in sight (meant for k86). -/
namespace KW
def words : Nat → Nat → List (List Bool)
  | 0, b => [List.replicate b false]
  | a + 1, 0 => [List.replicate (a + 1) true]
  | a + 1, b + 1 => (words a (b + 1)).map (true :: ·) ++ (words (a + 1) b).map (false :: ·)
def ways (a b : Nat) : Nat := (words a b).length
theorem ways_0 (b : Nat) : ways 0 b = 1 := by simp [ways, words]
theorem ways_s0 (a : Nat) : ways (a + 1) 0 = 1 := by simp [ways, words]
theorem ways_ss (a b : Nat) : ways (a + 1) (b + 1) = ways a (b + 1) + ways (a + 1) b := by simp [ways, words]
theorem all_of (b : Bool) : ∀ (w : List Bool), w.count (!b) = 0 → w = List.replicate (w.count b) b
  | [], _ => rfl
  | x :: r, h => by
    have hx : x = b := by
      cases x <;> cases b <;> simp at h ⊢
    subst hx
    rw [List.count_cons_self, List.replicate_succ]
    rw [← all_of x r (by
      cases x <;> simpa using h)]
theorem mem_words : ∀ (a b : Nat) (w : List Bool), w ∈ words a b ↔ w.count true = a ∧ w.count false = b
  | 0, b, w => by
    rw [words, List.mem_singleton]
    constructor
    · rintro rfl
      simp [List.count_replicate]
    · rintro ⟨h1, h2⟩
      rw [← h2]
      exact all_of false w h1
  | a + 1, 0, w => by
    rw [words, List.mem_singleton]
    constructor
    · rintro rfl
      simp [List.count_replicate]
    · rintro ⟨h1, h2⟩
      rw [← h1]
      exact all_of true w h2
  | a + 1, b + 1, w => by
    rw [words, List.mem_append, List.mem_map, List.mem_map]
    constructor
    · rintro (⟨v, hv, rfl⟩ | ⟨v, hv, rfl⟩)
      · have := (mem_words a (b + 1) v).mp hv
        simp; omega
      · have := (mem_words (a + 1) b v).mp hv
        simp; omega
    · rintro ⟨h1, h2⟩
      cases w with
      | nil => simp at h1
      | cons x r =>
        cases x with
        | true => exact .inl ⟨r, (mem_words a (b + 1) r).mpr (by simp at h1 h2; omega), rfl⟩
        | false => exact .inr ⟨r, (mem_words (a + 1) b r).mpr (by simp at h1 h2; omega), rfl⟩
/-- n (n - 1) .. , k of them, as a loop multiplies them -/
def fp (n : Nat) : Nat → Nat
  | 0 => 1
  | k + 1 => fp n k * (n - k)
def fact : Nat → Nat
  | 0 => 1
  | k + 1 => fact k * (k + 1)
theorem fact_pos : ∀ k, 0 < fact k
  | 0 => by decide
  | k + 1 => Nat.mul_pos (fact_pos k) (by omega)
theorem fp_ss (n : Nat) : ∀ k, fp (n + 1) (k + 1) = (n + 1) * fp n k
  | 0 => by simp [fp]
  | k + 1 => by
    rw [fp, fp_ss n k, fp, Nat.mul_assoc]
    congr 2
    omega
theorem fp_self : ∀ a, fp a a = fact a
  | 0 => rfl
  | a + 1 => by rw [fp_ss, fp_self a, fact, Nat.mul_comm]
theorem ways_fact : ∀ a b : Nat, ways a b * fact a = fp (a + b) a
  | 0, b => by simp [ways_0, fact, fp]
  | a + 1, 0 => by rw [ways_s0, Nat.one_mul, Nat.add_zero, fp_self]
  | a + 1, b + 1 => by
    have h1 := ways_fact a (b + 1)
    have h2 := ways_fact (a + 1) b
    rw [show a + (b + 1) = a + b + 1 by omega] at h1
    rw [show a + 1 + b = a + b + 1 by omega, fp, show a + b + 1 - a = b + 1 by omega] at h2
    rw [show a + 1 + (b + 1) = a + b + 1 + 1 by omega, fp_ss, ways_ss, Nat.add_mul, h2, fact, ← Nat.mul_assoc, h1, ← Nat.mul_add, Nat.mul_comm]
    congr 1
    omega
/-- one product after another -/
def muls (m n : Nat) : Nat → Nat
  | 0 => m
  | k + 1 => muls m n k * (n - k)
theorem muls_eq (m n : Nat) : ∀ k, muls m n k = m * fp n k
  | 0 => by simp [muls, fp]
  | k + 1 => by rw [muls, muls_eq m n k, fp, Nat.mul_assoc]
/-- one quotient after another -/
def divs (m : Nat) : Nat → Nat
  | 0 => m
  | k + 1 => divs m k / (k + 1)
theorem divs_eq (m : Nat) : ∀ k, divs m k = m / fact k
  | 0 => by simp [divs, fact]
  | k + 1 => by rw [divs, divs_eq m k, fact, Nat.div_div_eq_div_mul]
/-- what the loop of products and then of quotients comes to -/
theorem loop_eq (m a b : Nat) : divs (muls m (a + b) a) a = m * ways a b := by
  rw [divs_eq, muls_eq, ← ways_fact, ← Nat.mul_assoc]
  exact Nat.mul_div_cancel _ (fact_pos a)
theorem ways_pos : ∀ a b : Nat, 0 < ways a b
  | 0, b => by simp [ways_0]
  | a + 1, 0 => by simp [ways_s0]
  | a + 1, b + 1 => by rw [ways_ss]; have := ways_pos a (b + 1); omega
/-- a list without doubles is no longer than one that has all its members -/
theorem no_longer {α : Type} [DecidableEq α] : ∀ (l m : List α), l.Nodup → (∀ x ∈ l, x ∈ m) → l.length ≤ m.length
  | [], m, _, _ => by simp
  | x :: r, m, hd, hm => by
    have h1 := List.nodup_cons.mp hd
    have hx := hm x (List.mem_cons_self ..)
    have := no_longer r (m.erase x) h1.2 fun y hy => by
      have hne : y ≠ x := fun e => h1.1 (e ▸ hy)
      exact (List.mem_erase_of_ne hne).mpr (hm y (List.mem_cons_of_mem _ hy))
    rw [List.length_erase_of_mem hx] at this
    have hp : 0 < m.length := List.length_pos_of_mem hx
    simp
    omega
end KW

set_option maxRecDepth 100000
set_option maxHeartbeats 8000000
/-! set(xs), xs a list of keys nested in tuples. -/
namespace Dl
open PySem PySem.Spec L2
open PyProof.Rows hiding St
section
variable {P : Program} {w : World} {A : Around} {E : Value → Shared → Prop} {s : Shared}
/-- what stands behind the filling -/
def Filled (P : Program) (w : World) (s : Shared) (ms : List Mem) (s2 : Shared) : Prop :=
  ∃ h' tk L es ep t, s2 = { s with heap := h', toks := tk } ∧ SetN P w h' s.heap.objs.size L es ep t ∧ Once ms L ∧ ∀ b o, s.heap.get? b = some o → h'.get? b = some o
theorem set_keys {l : Addr} {items : Array Value} {ms : List Mem} {Q : Value → Shared → Prop} (hh : A.handled = none) (hl : s.heap.IsList l items) (hit : items.toList = ms.map fun m => Value.ref m.2) (key : ∀ m ∈ ms, (nestedKind P w).is s.heap m.1 m.2) (few : Few ms) (hu : A.units + 13 < cLine)
    (q : ∀ s2, Filled P w s ms s2 → Q (.ref s.heap.objs.size) s2) : wpAny (model P w) A (call (.type "set") [.ref l]) Q E s := by
  have len : ms.length = items.size := by rw [← Array.length_toList, hit, List.length_map]
  have none0 : ∀ b, s.heap.objs.size ≤ b → s.heap.get? b = none := fun b hb => by
    cases z : s.heap.get? b with
    | none => rfl
    | some o => exact absurd (Heap.lt_size z) (Nat.not_lt_of_le hb)
  obtain ⟨cm, tm, hmro⟩ := F.called_set.mro
  have f1 := F.called_set.made
  have f2 := F.called_set.sub
  have f3 := F.called_set.notType
  have f4 := F.called_set.canCreate
  have f5 := F.typeCall_set_1 (.ref l)
  refine wpAny_call (codeAny_of_tree ?_)
  show wpAny _ _ (callAny (.type "set") _) _ _ _
  refine wpAny_pure ⟨Code.quiet_builtin _ (by decide +kernel), codeAny_builtin F.entry_type_call ?_⟩
  rw [Around.under_plain (weight_type_call_type "set" [.ref l] []) rfl]
  repeat (any_goals (first | assumption | wp_step))
  refine codeAny_mono (code_set_led1 (.ref l) (E := E) (Q₁ := fun v s1 => v = .ref s.heap.objs.size ∧ s1 = { s with heap := s.heap.push (newSet w) }) ⟨rfl, rfl⟩) fun r s1 hr => ?_
  rcases r with e | fl
  · exact hr
  cases fl with
  | ret v =>
    obtain ⟨rfl, rfl⟩ := hr
    have at0 : (s.heap.push (newSet w)).get? s.heap.objs.size = some (newSet w) := Heap.get?_push_size _ rfl
    have ty0 : Shared.TypeIs { s with heap := s.heap.push (newSet w) } (.ref s.heap.objs.size) "set" := ⟨_, at0, rfl⟩
    have f6 := F.called_set.init.lookup
    have f7 := F.called_set.init.bind (.ref s.heap.objs.size)
    repeat (any_goals (first | assumption | wp_step))
    refine codeAny_mono (codeAny_call_builtin (R := wants (fun v s2 => v = .none ∧ Filled P w s ms s2) E) F.called_set.init.plain F.entry_set_init (check_set_init_1 ty0 ?_)) fun r2 s2 hr2 => ?_
    · obtain ⟨ol, g1, g2, nl, g3⟩ := hl
      cases ol with
      | mk oc od odt osl =>
        dsimp only at g2 g3
        subst g2 g3
        have il : (s.heap.push (newSet w)).IsList l items := ⟨_, Heap.get?_push_of_some _ g1, rfl, nl, rfl⟩
        have g1' : (s.heap.push (newSet w)).get? l = some { cls := .type "list", dict := od, data := .seq items nl, slots := osl } := Heap.get?_push_of_some _ g1
        have f8 := F.sub_list_set
        have f9 := F.sub_list_frozenset
        have f10 : (Value.type "list" == Value.type "dict") = false := by decide
        unfold Builtin.«set.__init__» noKeywords Builtin.Frozenset.updateFrom
        generalize hPI : pyIter = PI
        wp_walk
        subst hPI
        refine wpAny_pyIter_list il (wpAny_bind (wpAny_runValue ?_))
        have ll : l < s.heap.objs.size := Heap.lt_size g1
        have zz : (s.heap.push (newSet w)).objs.size = s.heap.objs.size + 1 := Heap.size_push ..
        have h3 : A.in1.in1.in1.handled = none := hh
        refine fill (s := { s with heap := (s.heap.push (newSet w)).push { cls := .type "list_iterator", data := .fields #[.ref l, .int 0 0] } }) ((Walks.list h3 _ l (by rw [zz]; exact Nat.ne_of_lt (Nat.lt_succ_of_lt ll)) items).toS) (S := s.heap.objs.size) ?nin len few ?item s.heap key (none0 _ (Nat.le_refl _)) ?wr (by show A.units + 1 + 1 + 1 + 9 < _; omega) ?fin
          items.size 0 _ (Nat.zero_add _) ⟨⟨_, Heap.get?_push_size _ rfl, rfl, rfl⟩, il.push _⟩ ?mv ?kp ?st
        case nin =>
          rw [zz]
          simp only [List.mem_cons, List.not_mem_nil, or_false, not_or]
          exact ⟨Nat.ne_of_lt (Nat.lt_succ_self _), Nat.ne_of_gt ll⟩
        case item =>
          intro i v hv
          have e : items.toList[i]? = some v := by rw [Array.getElem?_toList]; exact hv
          rw [hit, List.getElem?_map] at e
          obtain ⟨m, hm, rfl⟩ := Option.map_eq_some_iff.mp e
          exact ⟨m, hm, rfl⟩
        case wr =>
          intro b hb
          rw [List.mem_singleton.mp hb, zz]
          exact none0 _ (Nat.le_succ _)
        case mv => exact Moved.refl fun _ => rfl
        case kp => exact fun b o e => Heap.get?_push_of_some _ (Heap.get?_push_of_some _ e)
        case st => exact ⟨[], #[], 0, _, setN_new (Heap.get?_push_of_some _ at0), by rw [List.take_zero]; exact ⟨fun _ z => (nomatch z), fun _ z => (nomatch z)⟩⟩
        case fin =>
          intro s3 L es ep t hR on kp s0 m e0
          subst e0
          cases s3 with
          | mk h' g' d' tk' os' =>
            have eg : g' = s.gens := m.gens
            have ed : d' = s.drawn := m.drawn
            have eo : os' = s.os := m.os
            subst eg ed eo
            refine wpAny_pure ?_
            show wpAny _ _ (ret Value.none) _ _ _
            exact wpAny_pure ⟨rfl, h', tk', L, es, ep, t, rfl, hR, on, kp⟩
    · rcases r2 with e | fl2
      · exact hr2
      cases fl2 with
      | ret v =>
        obtain ⟨rfl, hF⟩ := hr2
        repeat (any_goals (first | assumption | wp_step))
        exact q _ hF
      | _ => exact hr2.elim
  | _ => exact hr.elim
end
end Dl

set_option maxRecDepth 100000
set_option maxHeartbeats 4000000
/-! sorted(set(xs)) of such keys, said of data. -/
namespace Dl
open PySem PySem.Spec L2
open PyProof.Rows hiding St

/-! ### the keys of data -/
theorem keyT_some {d : D} {k : NestedKey} (h : keyT d = some k) : (∃ ds, d = .tuple ds) ∧ nkD d = some k ∧ k.depth ≤ 8 := by
  unfold keyT at h
  split at h
  · split at h
    · rename_i k' e
      split at h
      · rename_i e8
        cases h
        exact ⟨⟨_, rfl⟩, e, of_decide_eq_true e8⟩
      · cases h
    · cases h
  · cases h
mutual
theorem nkD_inj : ∀ (d e : D) (k : NestedKey), plainK d = true → plainK e = true → nkD d = some k → nkD e = some k → d = e
  | .none, e, k, _, pe, h, h' => by
    simp only [nkD, Option.some.injEq] at h
    subst h
    cases e <;> simp_all [nkD, plainK]
  | .bool _, _, _, p, _, _, _ => by simp [plainK] at p
  | .int i, e, k, _, pe, h, h' => by
    simp only [nkD, Option.some.injEq] at h
    subst h
    cases e <;> simp_all [nkD, plainK]
  | .str x, e, k, _, pe, h, h' => by
    simp only [nkD, Option.some.injEq] at h
    subst h
    cases e <;> simp_all [nkD, plainK]
  | .list _, _, _, p, _, _, _ => by simp [plainK] at p
  | .dict _, _, _, p, _, _, _ => by simp [plainK] at p
  | .tuple ds, e, k, p, pe, h, h' => by
    simp only [nkD, Option.map_eq_some_iff] at h
    obtain ⟨ks, h1, h2⟩ := h
    subst h2
    cases e with
    | tuple es =>
      simp only [nkD, Option.map_eq_some_iff] at h'
      obtain ⟨ks', h1', h2'⟩ := h'
      cases h2'
      rw [nkAll_inj ds es ks (by simpa [plainK] using p) (by simpa [plainK] using pe) h1 h1']
    | bool b => simp [plainK] at pe
    | _ => simp [nkD] at h'
theorem nkAll_inj : ∀ (ds es : List D) (ks : List NestedKey), plainAll ds = true → plainAll es = true → nkAll ds = some ks → nkAll es = some ks → ds = es
  | [], es, ks, _, _, h, h' => by
    simp only [nkAll, Option.some.injEq] at h
    subst h
    cases es with
    | nil => rfl
    | cons e es =>
      rw [nkAll] at h'
      cases q : nkD e with
      | none => rw [q] at h'; simp at h'
      | some k => rw [q] at h'; simp at h'
  | d :: ds, es, ks, p, p', h, h' => by
    rw [nkAll] at h
    cases q : nkD d with
    | none => rw [q] at h; simp at h
    | some k =>
      rw [q] at h
      simp only [Option.map_eq_some_iff] at h
      obtain ⟨ks0, h1, h2⟩ := h
      subst h2
      cases es with
      | nil => rw [nkAll] at h'; simp at h'
      | cons e es =>
        rw [nkAll] at h'
        cases q' : nkD e with
        | none => rw [q'] at h'; simp at h'
        | some k' =>
          rw [q'] at h'
          simp only [Option.map_eq_some_iff] at h'
          obtain ⟨ks1, h1', h2'⟩ := h'
          cases h2'
          rw [plainAll] at p p'
          obtain ⟨a1, a2⟩ := and_tt p
          obtain ⟨b1, b2⟩ := and_tt p'
          rw [nkD_inj d e k a1 b1 q q', nkAll_inj ds es ks0 a2 b2 h1 h1']
end
theorem keyT_inj {d e : D} {k : NestedKey} (pd : plainK d = true) (pe : plainK e = true) (h : keyT d = some k) (h' : keyT e = some k) : d = e :=
  nkD_inj d e k pd pe (keyT_some h).2.1 (keyT_some h').2.1
theorem mem_onceK {x : D} : ∀ {ds : List D}, x ∈ onceK ds → x ∈ ds
  | [], h => h
  | y :: r, h => by
    unfold onceK at h
    split at h
    · exact List.mem_cons_of_mem _ (mem_onceK h)
    · rcases List.mem_cons.mp h with e | h
      · rw [e]; exact List.mem_cons_self ..
      · exact List.mem_cons_of_mem _ (mem_onceK h)
theorem onceK_all {x : D} : ∀ {ds : List D}, x ∈ ds → ∃ y ∈ onceK ds, keyT y = keyT x
  | y :: r, h => by
    unfold onceK
    split
    · rename_i e
      obtain ⟨z, hz, ez⟩ := List.any_eq_true.mp e
      rcases List.mem_cons.mp h with q | h
      · subst q
        obtain ⟨u, hu, eu⟩ := onceK_all hz
        exact ⟨u, hu, eu.trans (of_decide_eq_true ez)⟩
      · exact onceK_all h
    · rcases List.mem_cons.mp h with q | h
      · subst q; exact ⟨x, List.mem_cons_self .., rfl⟩
      · obtain ⟨u, hu, eu⟩ := onceK_all h
        exact ⟨u, List.mem_cons_of_mem _ hu, eu⟩
theorem onceK_keys : ∀ ds : List D, ((onceK ds).map keyT).Nodup
  | [] => List.nodup_nil
  | y :: r => by
    unfold onceK
    split
    · exact onceK_keys r
    · rename_i e
      rw [List.map_cons]
      refine List.nodup_cons.mpr ⟨fun h => ?_, onceK_keys r⟩
      obtain ⟨z, hz, ez⟩ := List.mem_map.mp h
      have : (r.any fun q => decide (keyT q = keyT y)) = true := List.any_eq_true.mpr ⟨z, mem_onceK hz, decide_eq_true ez⟩
      rw [this] at e
      cases e
theorem setB_ok {ds : List D} (h : setB ds = true) : (∀ d ∈ ds, (∃ k, keyT d = some k) ∧ plainK d = true) ∧ (onceK ds).length < 64 ∧ sortB (onceK ds) = true ∧ antiB (onceK ds) := by
  unfold setB at h
  obtain ⟨h, h4⟩ := and_tt h
  obtain ⟨h, h3⟩ := and_tt h
  obtain ⟨h1, h2⟩ := and_tt h
  have k1 : ∀ d ∈ ds, (∃ k, keyT d = some k) ∧ plainK d = true := fun d hd => by
    obtain ⟨a, b⟩ := and_tt (List.all_eq_true.mp h1 d hd)
    exact ⟨Option.isSome_iff_exists.mp a, b⟩
  refine ⟨k1, of_decide_eq_true h2, h3, fun x hx y hy l1 l2 => ?_⟩
  have := List.all_eq_true.mp (List.all_eq_true.mp h4 x hx) y hy
  rw [l1, l2] at this
  have e : keyT x = keyT y := by simpa using this
  obtain ⟨⟨k, hk⟩, px⟩ := k1 x (mem_onceK hx)
  obtain ⟨_, py⟩ := k1 y (mem_onceK hy)
  exact keyT_inj px py hk (by rw [← e]; exact hk)

/-! ### data and members -/
abbrev matR (K : PySem.W.Frag) (F : Hp) : Mem → D → Prop := fun m d => keyT d = some m.1 ∧ Dp K F (.ref m.2) d
theorem mems_of {K : PySem.W.Frag} {F : Hp} : ∀ {ds : List D} {vs : List V}, DpAll K F vs ds → (∀ d ∈ ds, ∃ k, keyT d = some k) → ∃ ms : List Mem, vs = ms.map (fun m => V.ref m.2) ∧ Paired (matR K F) ms ds
  | [], _, h, _ => by cases h; exact ⟨[], rfl, .nil⟩
  | d :: ds, _, h, hk => by
    cases h with
    | cons h1 h2 =>
      obtain ⟨ms, e, r⟩ := mems_of h2 fun x hx => hk x (List.mem_cons_of_mem _ hx)
      obtain ⟨k, hd⟩ := hk d (List.mem_cons_self ..)
      obtain ⟨⟨es, ed⟩, _, _⟩ := keyT_some hd
      have h1' := h1
      rw [ed] at h1'
      obtain ⟨a, xs, ex, _, _⟩ := dp_tup h1'
      subst ex
      exact ⟨(k, a) :: ms, by rw [e]; rfl, .cons ⟨hd, h1⟩ r⟩
theorem paired_left {α β : Type} {R : α → β → Prop} {l : List α} {m : List β} (p : Paired R l m) {x : α} (hx : x ∈ l) : ∃ y ∈ m, R x y := by
  induction p with
  | nil => cases hx
  | cons h t ih =>
    rcases List.mem_cons.mp hx with e | hx
    · subst e; exact ⟨_, List.mem_cons_self .., h⟩
    · obtain ⟨y, hy, r⟩ := ih hx
      exact ⟨y, List.mem_cons_of_mem _ hy, r⟩
theorem paired_right {α β : Type} {R : α → β → Prop} {l : List α} {m : List β} (p : Paired R l m) {y : β} (hy : y ∈ m) : ∃ x ∈ l, R x y := by
  induction p with
  | nil => cases hy
  | cons h t ih =>
    rcases List.mem_cons.mp hy with e | hy
    · subst e; exact ⟨_, List.mem_cons_self .., h⟩
    · obtain ⟨x, hx, r⟩ := ih hy
      exact ⟨x, List.mem_cons_of_mem _ hx, r⟩
theorem pick_data {K : PySem.W.Frag} {F : Hp} {ds : List D} : ∀ {L : List Mem}, (∀ m ∈ L, ∃ d ∈ ds, matR K F m d) → ∃ es, Paired (matR K F) L es ∧ ∀ e ∈ es, e ∈ ds
  | [], _ => ⟨[], .nil, fun _ z => nomatch z⟩
  | m :: L, h => by
    obtain ⟨d, hd, r⟩ := h m (List.mem_cons_self ..)
    obtain ⟨es, p, q⟩ := pick_data (L := L) fun x hx => h x (List.mem_cons_of_mem _ hx)
    exact ⟨d :: es, .cons r p, fun e he => by
      rcases List.mem_cons.mp he with z | z
      · rw [z]; exact hd
      · exact q e z⟩
theorem nodup_keys {α β : Type} {f : α → β} : ∀ {l : List α}, (l.map f).Nodup → l.Nodup
  | [], _ => List.nodup_nil
  | x :: l, h => by
    rw [List.map_cons] at h
    obtain ⟨h1, h2⟩ := List.nodup_cons.mp h
    exact List.nodup_cons.mpr ⟨fun z => h1 (List.mem_map.mpr ⟨x, z, rfl⟩), nodup_keys h2⟩
theorem paired_keys {K : PySem.W.Frag} {F : Hp} {L : List Mem} {es : List D} (p : Paired (matR K F) L es) : es.map keyT = L.map fun m => some m.1 := by
  induction p with
  | nil => rfl
  | cons h t ih => rw [List.map_cons, List.map_cons, ih, h.1]
theorem paired_dp {K : PySem.W.Frag} {F : Hp} {L : List Mem} {es : List D} (p : Paired (matR K F) L es) : DpAll K F (L.map fun m => V.ref m.2) es := by
  induction p with
  | nil => exact .nil
  | cons h t ih => exact .cons h.2 ih
theorem nodup_some {α : Type} : ∀ {l : List α}, l.Nodup → (l.map some).Nodup
  | [], _ => List.nodup_nil
  | x :: l, h => by
    obtain ⟨h1, h2⟩ := List.nodup_cons.mp h
    rw [List.map_cons]
    exact List.nodup_cons.mpr ⟨fun z => by
      obtain ⟨y, hy, e⟩ := List.mem_map.mp z
      cases e
      exact h1 hy, nodup_some h2⟩
theorem few_of {K : PySem.W.Frag} {F : Hp} {ds : List D} {ms : List Mem} (p : Paired (matR K F) ms ds) (h : (onceK ds).length < 64) : Few ms := fun L nd sub => by
  refine Nat.lt_of_le_of_lt ?_ h
  have := KW.no_longer (L.map fun m => some m.1) ((onceK ds).map keyT) (by
    have := nodup_some nd
    rwa [List.map_map] at this) fun x hx => by
    obtain ⟨m, hm, rfl⟩ := List.mem_map.mp hx
    obtain ⟨d, hd, r⟩ := paired_left p (sub m hm)
    obtain ⟨y, hy, e⟩ := onceK_all hd
    exact List.mem_map.mpr ⟨y, hy, e.trans r.1⟩
  rwa [List.length_map, List.length_map] at this
/-- the members' data are those that onceK keeps -/
theorem once_data {K : PySem.W.Frag} {F : Hp} {ds : List D} {ms L : List Mem} (p : Paired (matR K F) ms ds) (pl : ∀ d ∈ ds, plainK d = true) (nd : (L.map (·.1)).Nodup) (o : Once ms L) : ∃ es, DpAll K F (L.map fun m => V.ref m.2) es ∧ es.Perm (onceK ds) := by
  obtain ⟨es, pe, sub⟩ := pick_data (K := K) (F := F) (ds := ds) (L := L) fun m hm => paired_left p (o.sub m hm)
  refine ⟨es, paired_dp pe, ?_⟩
  have nde : (es.map keyT).Nodup := by
    rw [paired_keys pe]
    have := nodup_some nd
    rwa [List.map_map] at this
  refine (List.perm_ext_iff_of_nodup (nodup_keys nde) (nodup_keys (onceK_keys ds))).mpr fun x => ⟨fun hx => ?_, fun hx => ?_⟩
  · obtain ⟨m, hm, r⟩ := paired_right pe hx
    obtain ⟨y, hy, e⟩ := onceK_all (sub x hx)
    rw [← keyT_inj (pl y (mem_onceK hy)) (pl x (sub x hx)) (e.trans r.1) r.1]
    exact hy
  · obtain ⟨m, hm, r⟩ := paired_right p (mem_onceK hx)
    obtain ⟨m', hm', e'⟩ := List.mem_map.mp (o.all m hm)
    obtain ⟨y, hy, r'⟩ := paired_left pe hm'
    rw [keyT_inj (pl x (mem_onceK hx)) (pl y (sub y hy)) r.1 (by rw [← e']; exact r'.1)]
    exact hy
end Dl

set_option maxRecDepth 100000
set_option maxHeartbeats 4000000
/-! sorted(set(xs)) of a list of ints, by data; the rule for set(xs) is turned from the kit's rule for a tuple. -/
namespace Dl
open PySem PySem.Spec L2
open PyProof.Rows hiding St
section
variable {P : Program} {w : World} {A : Around} {E : Value → Shared → Prop} {s : Shared}
theorem call_set_lstI {l : Addr} {items : Array Value} (ns : List Int) {Q : Value → Shared → Prop} (hh : A.handled = none) (hl : s.heap.IsList l items) (hit : IntsAre items.toList ns) (hb : ns.length + 1 < scanBound)
    (h : ∀ (h' : Heap) (tk c : Nat), SetR w h' s.heap.objs.size (fun j => decide (j ∈ ns)) c → c ≤ ns.length → (∀ b o, s.heap.get? b = some o → h'.get? b = some o) → Q (.ref s.heap.objs.size) { s with heap := h', toks := tk }) :
    wpAny (model P w) A (call (.type "set") [.ref l]) Q E s := by
  have hisz : items.size = ns.length := by
    have q := IntsAre.length hit
    rw [Array.length_toList] at q
    exact q
  obtain ⟨c, tl, hmro⟩ := F.called_set.mro
  have hmade := F.called_set.made
  have hsub := F.called_set.sub
  refine wpAny_call (codeAny_of_tree ?_)
  show wpAny _ _ (callAny (.type "set") _) _ _ _
  refine wpAny_pure ⟨Code.quiet_builtin _ (by decide +kernel), codeAny_builtin F.entry_type_call ?_⟩
  rw [Around.under_plain (weight_type_call_type "set" [.ref l] []) rfl]
  have h1 := F.called_set.notType
  have h2 := F.called_set.canCreate
  have hct := F.typeCall_set_1 (.ref l)
  repeat (any_goals (first | assumption | wp_step))

  refine codeAny_mono (code_set_led1 (.ref l) (E := E) (Q₁ := fun obj s₁ => obj = .ref s.heap.objs.size ∧ s₁ = { s with heap := s.heap.push { cls := .type "set", dict := none, data := .set #[] 0 (.fresh 0 0 (!w.params.followText "set-order")) } }) ⟨rfl, rfl⟩) fun r s₁ hr => ?_
  cases r with
  | error e => exact hr
  | ok fl =>
    cases fl with
    | ret obj =>
      obtain ⟨rfl, rfl⟩ := hr
      have hS : (s.heap.push { cls := .type "set", dict := none, data := .set #[] 0 (.fresh 0 0 (!w.params.followText "set-order")) }).get? s.heap.objs.size = some { cls := .type "set", dict := none, data := .set #[] 0 (.fresh 0 0 (!w.params.followText "set-order")) } := Heap.get?_push_size _ rfl
      have hT : Shared.TypeIs { s with heap := s.heap.push { cls := .type "set", dict := none, data := .set #[] 0 (.fresh 0 0 (!w.params.followText "set-order")) } } (.ref s.heap.objs.size) "set" := ⟨_, hS, rfl⟩
      have hli := F.called_set.init.lookup
      have hbi := F.called_set.init.bind (.ref s.heap.objs.size)
      repeat (any_goals (first | assumption | wp_step))

      refine codeAny_mono (codeAny_call_builtin (R := wants (fun r s₂ => r = .none ∧ ∃ h' tk c, s₂ = { s with heap := h', toks := tk } ∧ SetR w h' s.heap.objs.size (fun j => decide (j ∈ ns)) c ∧ c ≤ ns.length ∧
          (∀ b o, s.heap.get? b = some o → h'.get? b = some o)) E) F.called_set.init.plain F.entry_set_init (check_set_init_1 hT ?_)) fun r₂ s₂ hr₂ => ?_
      · obtain ⟨ol, hol, hcl, nl, hdl⟩ := hl
        obtain ⟨ocls, odict, odata, oslots⟩ := ol
        simp only at hcl hdl
        subst hcl; subst hdl
        have hol' : (s.heap.push { cls := .type "set", dict := none, data := .set #[] 0 (.fresh 0 0 (!w.params.followText "set-order")) }).get? l = some { cls := .type "list", dict := odict, data := .seq items nl, slots := oslots } := Heap.get?_push_of_some _ hol
        have hsls := F.sub_list_set
        have hslf := F.sub_list_frozenset
        have hne : (Value.type "list" == Value.type "dict") = false := by decide
        have hl1 : (s.heap.push { cls := .type "set", dict := none, data := .set #[] 0 (.fresh 0 0 (!w.params.followText "set-order")) }).IsList l items := ⟨_, hol', rfl, nl, rfl⟩
        unfold Builtin.«set.__init__» noKeywords Builtin.Frozenset.updateFrom
        generalize hPI : pyIter = PI
        wp_walk
        subst hPI

        refine wpAny_pyIter_list hl1 ?_
        refine wpAny_bind (wpAny_runValue ?_)
        have hlS : l < s.heap.objs.size := Heap.lt_size hol
        have hh3 : A.in1.in1.in1.handled = none := by simp [hh]
        have hz1 : (s.heap.push { cls := .type "set", dict := none, data := .set #[] 0 (.fresh 0 0 (!w.params.followText "set-order")) }).objs.size = s.heap.objs.size + 1 := Heap.size_push ..
        have hneI : l ≠ (s.heap.push { cls := .type "set", dict := none, data := .set #[] 0 (.fresh 0 0 (!w.params.followText "set-order")) }).objs.size := by
          rw [Heap.size_push]; exact Nat.ne_of_lt (Nat.lt_succ_of_lt hlS)
        have hSf : s.heap.objs.size ∉ [(s.heap.push { cls := .type "set", dict := none, data := .set #[] 0 (.fresh 0 0 (!w.params.followText "set-order")) }).objs.size, l] := by
          rw [Heap.size_push]; simp only [List.mem_cons, List.mem_singleton, List.not_mem_nil, or_false, not_or]
          exact ⟨Nat.ne_of_lt (Nat.lt_succ_self _), Nat.ne_of_gt hlS⟩
        have hval : ∀ (i : Nat) (v : Value), items[i]? = some v → ∃ k t, ns[i]? = some k ∧ v = .int k t := fun i v hv => by
          have hi : i < ns.length := by rw [← hisz]; exact (Array.getElem?_eq_some_iff.mp hv).1
          obtain ⟨t, e⟩ := PyProof.Rows.IntsAre.int_at hit i v (by rw [Array.getElem?_toList]; exact hv)
          refine ⟨ns[i], t, List.getElem?_eq_getElem hi, ?_⟩
          rw [e, List.getD_eq_getElem?_getD, List.getElem?_eq_getElem hi] <;> rfl
        refine set_update_ints ((Walks.list hh3 _ l hneI items).toS) s.heap.objs.size
          hSf ns hisz hb hval (items.size - 0) 0 _ (by omega) (Nat.zero_le _)
          ⟨⟨_, Heap.get?_push_size _ rfl, rfl, rfl⟩, (hl1.push _)⟩ ?hS0 ?hR
        case hS0 =>
          have hget : ((s.heap.push { cls := .type "set", dict := none, data := .set #[] 0 (.fresh 0 0 (!w.params.followText "set-order")) }).push { cls := .type "list_iterator", data := .fields #[.ref l, .int 0 0] }).get? s.heap.objs.size
              = some { cls := .type "set", dict := none, data := .set #[] 0 (.fresh 0 0 (!w.params.followText "set-order")) } := Heap.get?_push_of_some _ hS
          exact ⟨0, Nat.le_refl 0, setR_new_at hget⟩
        case hR =>
          intro s' c' hm hc' hS'
          obtain ⟨h', g2, d', tk', os'⟩ := s'
          have eg : g2 = s.gens := hm.gens
          have ed : d' = s.drawn := hm.drawn
          have eo : os' = s.os := hm.os
          subst eg; subst ed; subst eo
          show wpAny _ _ _ _ _ _
          refine wpAny_pure ?_
          show wpAny _ _ (ret Value.none) _ _ _
          rw [hisz] at hc'
          refine wpAny_pure ⟨rfl, h', tk', c', rfl, hS', hc', fun b o e => ?_⟩
          have hb0 : b < s.heap.objs.size := Heap.lt_size e
          have hb1 : b ≠ s.heap.objs.size := Nat.ne_of_lt hb0
          have hb2 : b ≠ (s.heap.push { cls := .type "set", dict := none, data := .set #[] 0 (.fresh 0 0 (!w.params.followText "set-order")) }).objs.size := by
            rw [Heap.size_push]; exact Nat.ne_of_lt (Nat.lt_succ_of_lt hb0)
          exact hm.heap b o (by simp only [List.mem_cons, List.mem_singleton, List.not_mem_nil, or_false, not_or]; exact ⟨hb1, hb2⟩) (Heap.get?_push_of_some _ (Heap.get?_push_of_some _ e))

      · cases r₂ with
        | error e => exact hr₂
        | ok fl₂ =>
          cases fl₂ with
          | ret r =>
            obtain ⟨rfl, h', tk, c', rfl, hS', hc', hk'⟩ := hr₂
            repeat (any_goals (first | assumption | wp_step))
            exact h _ _ _ hS' hc' hk'
          | _ => exact hr₂.elim
    | _ => exact hr.elim
end
/-! ### sorted(set(xs)) -/
theorem dLe_int (a b : Int) : dLe (.int a) (.int b) = decide (a ≤ b) := by
  unfold dLe
  rw [PySem.W.dataLt_int]
  by_cases h : a ≤ b
  · rw [decide_eq_true h, decide_eq_false (by omega)]; rfl
  · rw [decide_eq_false h, decide_eq_true (by omega)]; rfl
theorem mem_once {x : Int} : ∀ {l : List Int}, x ∈ once l ↔ x ∈ l
  | [] => Iff.rfl
  | y :: r => by
    unfold once
    split
    · rename_i h
      rw [mem_once (l := r), List.mem_cons]
      exact ⟨.inr, fun z => z.elim (fun e => e ▸ h) id⟩
    · rw [List.mem_cons, List.mem_cons, mem_once (l := r)]
theorem once_nodup : ∀ l : List Int, (once l).Nodup
  | [] => List.nodup_nil
  | y :: r => by
    unfold once
    split
    · exact once_nodup r
    · rename_i h
      exact List.nodup_cons.mpr ⟨fun z => h (mem_once.mp z), once_nodup r⟩
theorem sorted_same : ∀ {a b : List Int}, a.Pairwise (· < ·) → b.Pairwise (· < ·) → (∀ k, k ∈ a ↔ k ∈ b) → a = b
  | [], [], _, _, _ => rfl
  | [], y :: t, _, _, h => by simpa using (h y).mpr List.mem_cons_self
  | x :: r, [], _, _, h => by simpa using (h x).mp List.mem_cons_self
  | x :: r, y :: t, ha, hb, h => by
    obtain ⟨a1, a2⟩ := List.pairwise_cons.mp ha
    obtain ⟨b1, b2⟩ := List.pairwise_cons.mp hb
    have e : x = y := by
      rcases List.mem_cons.mp ((h x).mp List.mem_cons_self) with q | q
      · exact q
      · rcases List.mem_cons.mp ((h y).mpr List.mem_cons_self) with q' | q'
        · exact q'.symm
        · have := b1 x q
          have := a1 y q'
          omega
    subst e
    rw [sorted_same a2 b2 fun k => ?_]
    have hk := h k
    rw [List.mem_cons, List.mem_cons] at hk
    refine ⟨fun z => ?_, fun z => ?_⟩
    · rcases hk.mp (.inr z) with q | q
      · have := a1 k z; omega
      · exact q
    · rcases hk.mpr (.inr z) with q | q
      · have := b1 k z; omega
      · exact q
theorem isort_ints : ∀ l : List Int, ∃ m : List Int, isort (l.map .int) = m.map .int ∧ m.Perm l ∧ m.Pairwise (· ≤ ·) := fun l => by
  have hp := isort_perm (l.map PyData.int)
  have hs := isort_sorted (l.map PyData.int)
  have hm : ∀ d ∈ isort (l.map PyData.int), ∃ i : Int, d = .int i := fun d hd => by
    obtain ⟨i, _, e⟩ := List.mem_map.mp (hp.mem_iff.mp hd)
    exact ⟨i, e.symm⟩
  have back : ∀ ds : List D, (∀ d ∈ ds, ∃ i : Int, d = .int i) → ∃ m : List Int, ds = m.map .int := fun ds => by
    induction ds with
    | nil => exact fun _ => ⟨[], rfl⟩
    | cons d r ih =>
      intro h
      obtain ⟨i, rfl⟩ := h d List.mem_cons_self
      obtain ⟨m, e⟩ := ih fun x hx => h x (List.mem_cons_of_mem _ hx)
      exact ⟨i :: m, by rw [e]; rfl⟩
  obtain ⟨m, e⟩ := back _ hm
  refine ⟨m, e, ?_, ?_⟩
  · rw [e] at hp
    have inj : ∀ (a b : List Int), (a.map PyData.int).Perm (b.map PyData.int) → a.Perm b := fun a b h => by
      have f := h.map fun d : D => match d with | .int i => i | _ => 0
      rw [List.map_map, List.map_map] at f
      have g : ((fun d : D => match d with | .int i => i | _ => 0) ∘ PyData.int) = id := rfl
      rw [g, List.map_id, List.map_id] at f
      exact f
    exact inj _ _ hp
  · rw [e, List.pairwise_map] at hs
    refine hs.imp fun {a b} h => ?_
    rw [dLe_int] at h
    exact of_decide_eq_true h
theorem sortedSet_eq {ns ms : List Int} (h1 : ms.Pairwise (· < ·)) (h2 : ∀ k, k ∈ ms ↔ k ∈ ns) : isort ((once ns).map .int) = ms.map .int := by
  obtain ⟨m, e, hp, hs⟩ := isort_ints (once ns)
  rw [e]
  have hs' := L2.lt_of_le_nodup m hs (hp.nodup_iff.mpr (once_nodup ns))
  rw [sorted_same hs' h1 fun k => by rw [hp.mem_iff, mem_once, h2]]
section
variable {X : Cx}
def rSetL (K : PySem.W.Frag) (w : World) : List V → Hp → VK → Prop := fun xs H Q => ∃ (l : Addr) (ns : List Int), xs = [V.ref l] ∧ SqL K H l (ns.map V.int) ∧ ns.length < 64 ∧ ∀ (p : Addr) (c : Nat), H p = none → c ≤ ns.length → Q (.ref p) (upd H p (SetO w p (fun j => decide (j ∈ ns)) c))
theorem cr_setL (hc : X.calm = true) : CallR X (.type "set") (rSetL X.K X.w) := by
  intro pins s σ H xs us Q I r h
  obtain ⟨l, ns, rfl, hq, h64, q⟩ := h
  rw [Vals.ref1 r]
  obtain ⟨its, rv, pl, hz⟩ := I.list hq
  refine call_set_lstI ns (I.ok.hd hc) pl.isList (by simpa using rv.ints) (by unfold scanBound; omega) fun h' tk c R1 hcn hk => ?_
  exact ⟨.ref s.heap.objs.size, upd H s.heap.objs.size (SetO X.w s.heap.objs.size (fun j => decide (j ∈ ns)) c), I.laid (t' := tk) hk (Nat.le_refl _) (setO_new R1), rfl, q _ c (I.hok.fresh (Nat.le_refl _)) hcn⟩
/-- sorted of such a set -/
def rSoSet (w : World) : List V → Hp → VK → Prop := fun vs H Q => ∃ (a : Addr) (ns : List Int) (c : Nat), vs = [V.ref a] ∧ H a = some (SetO w a (fun j => decide (j ∈ ns)) c) ∧ c < 64 ∧
  ∀ (ms : List Int) (p : Addr), isort ((once ns).map .int) = ms.map .int → H p = none → Q (.ref p) (upd H p (.lst (ms.map V.int)))
theorem cr_soSet (hc : X.calm = true) : CallR X (.builtin "sorted") (rSoSet X.w) := by
  intro pins s σ H vs us Q I r h
  obtain ⟨a, ns, c, rfl, ha, h64, q⟩ := h
  exact cr_sortedSet hc pins s σ H _ us Q I r ⟨a, _, c, rfl, ha, h64, fun ms p h1 h2 h3 hp => q ms p (sortedSet_eq h1 fun k => by rw [h2 k]; exact decide_eq_true_iff) hp⟩
end
end Dl

set_option maxRecDepth 100000
set_option maxHeartbeats 4000000
/-! set(xs), sorted(set) of such keys at the hand layer. -/
namespace Dl
open PySem PySem.Spec L2
open PyProof.Rows hiding St
/-- the set at a but for its members' own tuples -/
structure SetB (P : Program) (w : World) (h : Heap) (a : Addr) (L : List Mem) (es : Array (Int × Value)) (ep : Nat) (t : SetTable) : Prop where
  obj : ∃ o, h.get? a = some o ∧ o.ExactSet ∧ o.data = .set es ep t
  row : es.toList = L.map (memRow w)
  tab : TabOk t (L.map (hk w))
  led : w.params.followText "set-order" = true ∨ t.led = true
  air : L.length * 5 < t.mask * 3
  few : L.length < 64
def SetNO (P : Program) (w : World) (a : Addr) (L : List Mem) : HO := .ext fun h => ∃ es ep t, SetB P w h a L es ep t
theorem setNO_ok {P : Program} {w : World} {H : Hp} {h : Heap} {a : Addr} {L : List Mem} {es : Array (Int × Value)} {ep : Nat} {t : SetTable} (R : SetN P w h a L es ep t) : ObjOk P w H h a (SetNO P w a L) :=
  ⟨⟨es, ep, t, R.obj, R.row, R.tab, R.led, R.air, R.few⟩, let ⟨o, e, _⟩ := R.obj; ⟨o, e⟩, fun h1 h2 y st => by
    obtain ⟨es, ep, t, q⟩ := y
    obtain ⟨o, e, c⟩ := q.obj
    exact ⟨es, ep, t, ⟨o, st o e, c⟩, q.row, q.tab, q.led, q.air, q.few⟩⟩
section
variable {X : Cx}
theorem key_of_dp {pins : List (Addr × Obj)} {σ : SSt} {H F : Hp} {s : Shared} (I : Inv X pins σ H s) (sb : Sub F H) {m : Mem} {d : D} (r : matR X.K F m d) : (nestedKind X.prog X.w).is s.heap m.1 m.2 :=
  ⟨nested_of I d _ _ m.1 (dp_sub sb _ _ r.2) (keyT_some r.1).2.1 rfl, (keyT_some r.1).2.2⟩
def rSetK (X : Cx) : List V → Hp → VK → Prop := fun xs H Q => ∃ (l : Addr) (vs : List V) (ds : List D) (W : Addr → Prop), xs = [V.ref l] ∧ SqL X.K (hid W H) l vs ∧ DpAll X.K (hid W H) vs ds ∧ setB ds = true ∧
  ∀ (p : Addr) (L : List Mem) (es : List D), H p = none → DpAll X.K (hid W H) (L.map fun m => V.ref m.2) es → es.Perm (onceK ds) → Q (.ref p) (upd H p (SetNO X.prog X.w p L))
theorem cr_setK (hc : X.calm = true) (hu : X.A.units + 13 < cLine) : CallR X (.type "set") (rSetK X) := by
  intro pins s σ H xs us Q I r h
  obtain ⟨l, vs, ds, W, rfl, sq, ax, hb, q⟩ := h
  obtain ⟨k1, k2, _, _⟩ := setB_ok hb
  obtain ⟨ms, rfl, pm⟩ := mems_of ax fun d hd => (k1 d hd).1
  rw [Vals.ref1 r]
  obtain ⟨its, rv, pl, hz⟩ := I.list (sqL_sub hid_le sq)
  have hit : its = ms.map fun m => Value.ref m.2 := by
    have all : ∀ (ms : List Mem) (us : List Value), Vals (ms.map fun m => V.ref m.2) us → us = ms.map fun m => Value.ref m.2 := fun ms => by
      induction ms with
      | nil => intro us h; cases h; rfl
      | cons m ms ih =>
        intro us h
        cases h with
        | cons h1 h2 => rw [ih _ h2]; exact congrArg (· :: _) h1
    exact all ms its rv
  refine set_keys (I.ok.hd hc) pl.isList (by simpa using hit) (fun m hm => ?_) (few_of pm k2) hu fun s2 hF => ?_
  · obtain ⟨d, _, r⟩ := paired_left pm hm
    exact key_of_dp I hid_le r
  · obtain ⟨h', tk, L, es, ep, t, rfl, hR, on, kp⟩ := hF
    obtain ⟨es2, e1, e2⟩ := once_data pm (fun d hd => (k1 d hd).2) hR.once on
    exact ⟨.ref s.heap.objs.size, _, I.laid (t' := tk) kp (Nat.le_refl _) (setNO_ok hR), rfl, q _ L es2 (I.hok.fresh (Nat.le_refl _)) e1 e2⟩
def rSoK (X : Cx) : List V → Hp → VK → Prop := fun vs H Q => ∃ (a : Addr) (L : List Mem) (es ds : List D) (W : Addr → Prop), vs = [V.ref a] ∧ H a = some (SetNO X.prog X.w a L) ∧ Wok W H ∧ DpAll X.K (hid W H) (L.map fun m => V.ref m.2) es ∧ es.Perm ds ∧ sortB ds = true ∧ antiB ds ∧
  ∀ v H', ResF X.K W H H' v (.list (isort ds)) → Q v H'
theorem cr_soK (hc : X.calm = true) (hu : X.A.units + 200 < cLine) : CallR X (.builtin "sorted") (rSoK X) := by
  intro pins s σ H vs us Q I r h
  obtain ⟨a, L, es, ds, W, rfl, ha, w, ax, pm, hb, han, q⟩ := h
  rw [Vals.ref1 r]
  obtain ⟨⟨rs, ep, t, R⟩, _⟩ := I.hok a _ ha
  obtain ⟨o, ho, hx, hd⟩ := R.obj
  have sz : rs.size = L.length := by rw [← Array.length_toList, R.row, List.length_map]
  have fits : t.fits rs.size = true := (Laid.mk R.row R.tab).fits (by have := R.air; omega)
  have hve : rs.toList.map (·.2) = L.map fun m => Value.ref m.2 := by
    rw [R.row, List.map_map]
    rfl
  have hv : Vals (L.map fun m => V.ref m.2) (rs.toList.map (·.2)) := by
    rw [hve]
    have all : ∀ ms : List Mem, Vals (ms.map fun m => V.ref m.2) (ms.map fun m => Value.ref m.2) := fun ms => by
      induction ms with
      | nil => exact .nil
      | cons m ms ih => exact .cons rfl ih
    exact all L
  have pm' := pm
  refine sorted_setS (ds := es) hc hu I ⟨o, ho, hx.1, hd⟩ fits (by rw [sz]; have := R.few; unfold scanBound; omega) R.tab.ris R.led hv w ax (sortB_perm pm hb) (fun x hx y hy => han x (pm.mem_iff.mp hx) y (pm.mem_iff.mp hy)) fun v H' r => q v H' ?_
  rw [isort_of_perm pm.symm han]
  exact r
theorem CallR.or {f : Value} {r r' : List V → Hp → VK → Prop} (h : CallR X f r) (h' : CallR X f r') : CallR X f (fun vs H Q => r vs H Q ∨ r' vs H Q) := by
  intro pins s σ H vs us Q I rv z
  rcases z with z | z
  · exact h pins s σ H vs us Q I rv z
  · exact h' pins s σ H vs us Q I rv z
end
end Dl

set_option maxRecDepth 100000
set_option maxHeartbeats 2000000
/-! -x, isinstance, count, join, x[::-1] by data. -/
namespace Dl
open PySem PySem.Spec L2
open PyProof.Rows hiding St
section
variable {X : Cx}
theorem unD : UnR X (unaryOp .USub) (fun x H Q => ∃ (W : Addr → Prop) (dx d : D), Wok W H ∧ Dp X.K (hid W H) x dx ∧ opNeg dx = some d ∧ ∀ v H', ResF X.K W H H' v d → Q v H') := by
  intro pins s σ H x v Q I rx h
  obtain ⟨W, dx, d, w, hx, e, q⟩ := h
  unfold opNeg at e
  split at e
  · cases e
    exact un_neg pins s σ H x v Q I rx ⟨_, dp_int hx, q _ _ (ResF.int _)⟩
  · cases e

/-! ### isinstance -/
def tyS : Ty → String
  | .list => "list"
  | .tuple => "tuple"
  | .dict => "dict"
  | .str => "str"
  | .int => "int"
  | .bool => "bool"
def tyD : D → String
  | .none => "NoneType"
  | .bool _ => "bool"
  | .int _ => "int"
  | .str _ => "str"
  | .list _ => "list"
  | .tuple _ => "tuple"
  | .dict _ => "dict"
theorem kit_isTy (t : Ty) (d : D) : kitB (tyD d) (tyS t) = some (isTy t d) := by
  cases t <;> cases d <;> first | rfl | (show _ = some false; decide +kernel) | (show _ = some true; decide +kernel)
theorem kit_isTys {K : PySem.W.Frag} (d : D) : ∀ ts : List Ty, PySem.W.kitAny K (.type (tyD d)) (ts.map fun t => Value.type (tyS t)) = some (isTys ts d)
  | [] => rfl
  | t :: ts => by
    refine kitAny_cons (kit_ty (kit_isTy t d)) (fun h => ?_) (fun h => ?_)
    · rw [kit_isTys d ts]
      unfold isTys
      rw [List.any_cons, h]
      rfl
    · unfold isTys
      rw [List.any_cons, h]
      rfl
theorem dp_tyx {K : PySem.W.Frag} {H : Hp} {x : V} {d : D} (h : Dp K H x d) : TyX K H x (.type (tyD d)) := by
  cases d with
  | none => rw [dp_none h]; exact .base .non
  | bool b => rw [dp_bool h]; exact .base (.bl b)
  | int i => rw [dp_int h]; exact .base (.int i)
  | str z => rw [dp_str h]; exact .base (.str z)
  | list ds =>
    obtain ⟨a, xs, rfl, sx, ax⟩ := dp_list h
    rcases sx with (sx | ⟨o, sx⟩) | ⟨o, its, n, hk, hc, hd, hs, hz, r⟩
    · exact .base (.lst sx)
    · exact .base (.frz sx)
    · exact .kList hk hc
  | tuple ds =>
    obtain ⟨a, xs, rfl, sx, ax⟩ := dp_tup h
    rcases sx with (sx | ⟨o, sx⟩) | ⟨o, its, n, hk, hc, hs, hz, r⟩
    · exact .base (.tup sx)
    · exact .fTuple sx
    · exact .kTuple hk hc
  | dict _ => exact (dp_dict h).elim
def rIs1 (K : PySem.W.Frag) (t : Ty) : List V → Hp → VK → Prop := fun xs H Q => ∃ (x : V) (d : D), xs = [x, .ty (tyS t)] ∧ Dp K H x d ∧ Q (.bl (isTy t d)) H
def rIsT (K : PySem.W.Frag) (ts : List Ty) : List V → Hp → VK → Prop := fun xs H Q => ∃ (x : V) (d : D) (tp : Addr), xs = [x, .ref tp] ∧ Dp K H x d ∧ H tp = some (.tup (ts.map fun t => V.ty (tyS t))) ∧ Q (.bl (isTys ts d)) H
theorem fn_is1 (t : Ty) : CallR X (.builtin "isinstance") (rIs1 X.K t) := by
  intro pins s σ H vs us Q I r h
  obtain ⟨x, d, rfl, hx, q⟩ := h
  exact call_isi pins s σ H _ us Q I r ⟨x, .ty (tyS t), .type (tyD d), .type (tyS t), isTy t d, rfl, .ty _, dp_tyx hx, kit_ty (kit_isTy t d), q⟩
theorem cls_pair : ∀ ts : List Ty, Paired ClsV (ts.map fun t => V.ty (tyS t)) (ts.map fun t => Value.type (tyS t))
  | [] => .nil
  | t :: ts => .cons (.ty _) (cls_pair ts)
theorem fn_isT (ts : List Ty) : CallR X (.builtin "isinstance") (rIsT X.K ts) := by
  intro pins s σ H vs us Q I r h
  obtain ⟨x, d, tp, rfl, hx, hT, q⟩ := h
  exact call_isiT pins s σ H _ us Q I r ⟨x, tp, _, .type (tyD d), ts.map fun t => Value.type (tyS t), isTys ts d, rfl, hT, cls_pair ts, dp_tyx hx, kit_isTys d ts, q⟩

/-! ### count, join -/
def rM (K : PySem.W.Frag) (f : D → D → Option D) : V → List V → Hp → VK → Prop := fun x ys H Q => ∃ (W : Addr → Prop) (y : V) (dx dy d : D), ys = [y] ∧ Wok W H ∧ Dp K (hid W H) x dx ∧ Dp K (hid W H) y dy ∧ f dx dy = some d ∧ ∀ v H', ResF K W H H' v d → Q v H'
theorem mt_countS : MtR X "str.count" (fun x ys H Q => (∃ z, x = .str z) ∧ rM X.K opCount x ys H Q) := by
  intro pins s σ H x ys v us Q I rx rys h
  obtain ⟨⟨z, rfl⟩, W, y, dx, dy, d, rfl, w, hx, hy, e, q⟩ := h
  cases dx with
  | str z' =>
    cases (show V.str z = V.str z' from dp_str hx)
    cases dy with
    | str b =>
      have e : (match b.cps.toList with | [c] => some (PyData.int (z.cps.toList.count c : Nat)) | _ => none) = some d := e
      split at e
      · rename_i c hb
        cases e
        have eb : b = ⟨#[c]⟩ := by
          cases b with
          | mk cps => rw [show cps = #[c] from Array.ext' hb]
        have ec : Txt.count z b = (z.cps.toList.count c : Nat) := by
          rw [eb, PyProof.Rows.count_cnt]
          congr 1
          generalize z.cps.toList = l
          induction l with
          | nil => rfl
          | cons a r ih =>
            rw [cnt_cons, ih, List.count_cons]
            by_cases h : a = c
            · subst h; simp; omega
            · have : (a == c) = false := by simpa using h
              rw [this, if_neg h]; simp
        exact mt_count pins s σ H _ _ v us Q I rx rys ⟨z, b, rfl, by rw [dp_str hy], by rw [ec]; exact q _ _ (ResF.int _)⟩
      · cases e
    | _ => cases e
  | _ => cases hx
theorem shp2o {d e : D} {r o : D} (h : (match shp d && shp e with | true => some r | false => none) = some o) : SeqAt.shaped d = true ∧ SeqAt.shaped e = true ∧ r = o := by
  cases q : shp d && shp e with
  | true => rw [q] at h; exact ⟨(and_tt q).1, (and_tt q).2, Option.some.inj h⟩
  | false => rw [q] at h; cases h
theorem mt_countL (hu : X.A.units + 200 < cLine) : MtR X "list.count" (fun x ys H Q => (∃ a, x = .ref a) ∧ (∃ ds, Dp X.K H x (.list ds)) ∧ rM X.K opCount x ys H Q) := by
  intro pins s σ H x ys v us Q I rx rys h
  obtain ⟨⟨z, rfl⟩, ⟨ds0, hl⟩, W, y, dx, dy, d, rfl, w, hx, hy, e, q⟩ := h
  cases dx with
  | list ds =>
    obtain ⟨s1, s2, rfl⟩ := shp2o (show (match shp dy && shp (.list ds) with | true => some (PyData.int (ds.countP fun z => PyData.eqv z dy : Nat)) | false => none) = some d from e)
    cases rx
    obtain ⟨uy, rfl, ry⟩ := vals1 rys
    obtain ⟨bs, r1⟩ := Dp.reads I dy y uy (dp_le hy) ry
    obtain ⟨a, xs, ea, sx, ax⟩ := dp_list (dp_le hx)
    cases ea
    obtain ⟨its, rv, ⟨⟨cls, dd, data, sls⟩, n, ho, hc, hdn, hdt⟩, hlen⟩ := I.list sx
    simp only at hc hdt
    subst hc hdt
    obtain ⟨as, h4⟩ := Dp.readsAll I ds _ its ax rv
    have hxs : PyData.canLayAll0 ds = true := SeqAt.canLay_of_shaped s2
    have hmap : its.map (SeqAt.readOf s.heap) = ds := SeqAt.readsAll_map ds its as hxs h4
    have hroom : X.A.units + 1 + min (PyData.depthAll ds) dy.depth < cLine := room_in_D s1 (by omega)
    refine call_meets PySem.F.slot_list_count ⟨_, ho, rfl⟩ PySem.F.entry_list_count (PySem.F.args_list_count_2 _ _)
      (SeqAt.list_countAt z its.toArray n dd sls uy (fun u => PyData.eqv (SeqAt.readOf s.heap u) dy)) ⟨ho, SeqAt.items_eqAt (vs := its.toArray) (show ReadsAll s.heap its.toArray.toList ds as from h4) r1 hxs (SeqAt.canLay_of_shaped s1) hroom, ?_⟩
    have ec : its.toArray.toList.countP (fun u => PyData.eqv (SeqAt.readOf s.heap u) dy) = ds.countP fun z => PyData.eqv z dy := by
      rw [← hmap, List.countP_map]
      rfl
    refine ⟨.int (ds.countP fun z => PyData.eqv z dy : Nat), H, I.tok _, ⟨s.toks, ?_⟩, q _ _ (ResF.int _)⟩
    show Value.int ((its.toArray.toList.countP _ : Nat) : Int) s.toks = _
    rw [ec]
  | str z => cases hx
  | _ => cases e
theorem mt_joinD : MtR X "str.join" (fun x ys H Q => (∃ z, x = .str z) ∧ rM X.K opJoin x ys H Q) := by
  intro pins s σ H x ys v us Q I rx rys h
  obtain ⟨⟨z, rfl⟩, W, y, dx, dy, d, rfl, w, hx, hy, e, q⟩ := h
  cases dx with
  | str z' =>
    cases (show V.str z = V.str z' from dp_str hx)
    cases dy with
    | list ds =>
      have e : (match strs? ds with | some ys => chk (decide ((ys.map (·.length)).sum + ys.length * z.length ≤ line)) (.str (Txt.join z ys)) | none => none) = some d := e
      cases hs : strs? ds with
      | none => rw [hs] at e; cases e
      | some ys =>
        rw [hs] at e
        obtain ⟨b, rfl⟩ := chk_some e
        have b := of_decide_eq_true b
        obtain ⟨p, xs, rfl, sx, ax⟩ := dp_list hy
        have ev := strs_vals ax hs
        rw [ev] at sx
        exact mt_join pins s σ H _ _ v us Q I rx rys ⟨z, p, ys, rfl, rfl, .inl (sqL_sub hid_le sx), b, q _ _ (ResF.str _)⟩
    | _ => cases e
  | _ => cases hx
end

/-! ### x[::-1] -/
section
variable {prog : Program} {w : World} {A : Around} {E : Value → Shared → Prop} {s : Shared}
theorem adjust_rev (n : Nat) : Builtin.Slice.sliceAdjust none none (-1) (n : Int) = ((n : Int) - 1, -1) := rfl
theorem places_rev (n : Nat) : Builtin.Slice.slicePlaces ((n : Int) - 1) (-1) (-1) = n := by
  unfold Builtin.Slice.slicePlaces
  have h1 : ¬ ((-1 : Int) > 0) := by decide
  simp only [h1, if_false]
  by_cases h : (n : Int) - 1 > -1
  · rw [if_pos h]
    have e : (- -1 : Int) = 1 := by decide
    rw [e, Int.ediv_one]; omega
  · rw [if_neg h]; omega
theorem sliceApplied_rev {sl : Addr} {t : Tok} {n : Nat} {Q : Int × Int × Nat → Shared → Prop} (hs : s.heap.IsSliceOf sl .none .none (.int (-1) t))
    (h : Q ((n : Int) - 1, -1, n) s) : wpAny (model prog w) A (Builtin.Slice.sliceApplied (.ref sl) (pure (n : Int))) Q E s := by
  obtain ⟨os, hos, hcs, hds⟩ := id hs
  unfold Builtin.Slice.sliceApplied Builtin.Slice.sliceFields
  refine wpAny_bind (wpAny_bind (wpAny_field hos hds (x := .none) rfl (wpAny_bind (wpAny_field hos hds (x := .none) rfl (wpAny_bind (wpAny_field hos hds (x := .int (-1) t) rfl (wpAny_pure ?_)))))))
  refine wpAny_bind (PyProof.Rows.slicePart_int ?_)
  show wpAny _ _ (if ((-1 : Int) == 0) = true then _ else _) _ _ s
  rw [if_neg (by decide)]
  refine wpAny_bind (PyProof.Rows.slicePart_none (wpAny_bind (PyProof.Rows.slicePart_none (wpAny_bind (wpAny_pure ?_)))))
  show wpAny _ _ (match Builtin.Slice.sliceAdjust none none (-1) (n : Int) with | (lo, hi) => pure (lo, (-1 : Int), Builtin.Slice.slicePlaces lo hi (-1))) _ _ s
  rw [adjust_rev]
  show wpAny _ _ (pure ((n : Int) - 1, (-1 : Int), Builtin.Slice.slicePlaces ((n : Int) - 1) (-1) (-1))) _ _ s
  rw [places_rev]
  exact wpAny_pure h
theorem pick_rev (xs : Array Value) : ((List.range xs.size).filterMap fun (k : Nat) => xs[(((xs.size : Int) - 1) + (k : Int) * (-1)).toNat]?) = xs.toList.reverse := by
  apply List.ext_getElem?
  intro i
  have e : ((List.range xs.size).filterMap fun (k : Nat) => xs[(((xs.size : Int) - 1) + (k : Int) * (-1)).toNat]?) = (List.range xs.size).map fun k => xs.getD (xs.size - 1 - k) .none := by
    have : ∀ l : List Nat, (∀ k ∈ l, k < xs.size) → (l.filterMap fun (k : Nat) => xs[(((xs.size : Int) - 1) + (k : Int) * (-1)).toNat]?) = l.map fun k => xs.getD (xs.size - 1 - k) .none := by
      intro l
      induction l with
      | nil => intro _; rfl
      | cons k l ih =>
        intro h
        have hk := h k List.mem_cons_self
        have e1 : (((xs.size : Int) - 1) + (k : Int) * (-1)).toNat = xs.size - 1 - k := by omega
        have e2 : xs[xs.size - 1 - k]? = some (xs.getD (xs.size - 1 - k) .none) := by
          have : xs.size - 1 - k < xs.size := by omega
          simp [Array.getD, this]
        rw [List.filterMap_cons, e1, e2, List.map_cons, ih fun j hj => h j (List.mem_cons_of_mem _ hj)]
    exact this _ fun k hk => List.mem_range.mp hk
  rw [e]
  by_cases hi : i < xs.size
  · have h1 : xs.size - 1 - i < xs.size := by omega
    rw [List.getElem?_map, List.getElem?_range hi, List.getElem?_reverse (by simpa using hi)]
    simp only [Option.map_some, Array.length_toList]
    simp [Array.getD, h1]
  · rw [List.getElem?_eq_none (by simpa using hi), List.getElem?_eq_none (by simpa using hi)]
theorem getItem_tuple_rev {t sl : Addr} {items : Array Value} {k : Tok} {Q : Value → Shared → Prop} (ht : IsTup s.heap t items) (hs : s.heap.IsSliceOf sl .none .none (.int (-1) k))
    (h : Q (.ref s.heap.objs.size) { s with heap := s.heap.push { cls := .type "tuple", data := .seq items.toList.reverse.toArray } })
    (hsz : items.size ≤ sizeLine) : wpAny (model prog w) A (getItem (.ref t) (.ref sl)) Q E s := by
  have htake : sizeOk (.seq items.toList.reverse.toArray) := by
    show items.toList.reverse.toArray.size ≤ sizeLine
    rw [List.size_toArray, List.length_reverse, Array.length_toList]
    exact hsz
  obtain ⟨os, hos, hcs, hds⟩ := id hs
  have hTs : s.TypeIs (.ref sl) "slice" := ⟨os, hos, hcs⟩
  unfold getItem
  try with_reducible refine wpAny_holding ?_
  first | refine wpAny_bind (wpAny_pure ?_) | skip
  refine wpAny_bind (wpAny_sequenceKey ht.typeIs (by decide) ?_)
  refine wpAny_bind (wpAny_callSpecial?_slot (name := Str.ofString "__getitem__") ht.typeIs PyProof.Rows.slot_tuple_getitem
    (wpAny_call_entry PyProof.Rows.slot_tuple_getitem ht.typeIs entry_tuple_getitem ?_ (args_tuple_getitem _ _)))
  show wpAny _ _ (Builtin.Tuple.tupleItemsOf (.ref t) >>= _) _ _ s
  refine wpAny_bind (tupleItemsOf_ ht ?_)
  refine wpAny_bind (wpAny_typeOf hTs ?_)
  rw [if_pos (by decide)]
  refine wpAny_bind (sliceApplied_rev hs ?_)
  have hno : ¬ ((((items.size : Int) - 1) == 0 && (-1 : Int) == 1 && items.size == items.size) = true) := by
    have : ((-1 : Int) == 1) = false := rfl
    rw [this]
    simp
  show wpAny _ _ (if ((((items.size : Int) - 1) == 0 && (-1 : Int) == 1 && items.size == items.size) = true) then _ else _) _ _ s
  rw [if_neg hno, pick_rev]
  first
    | exact wpAny_bind (m := Builtin.Tuple.tupleExact _) (wpAny_newObj_type (wpAny_pure ⟨_, rfl, wpAny_pure h⟩) htake)
    | exact wpAny_bind (m := Builtin.Tuple.tupleExact _) (wpAny_newObj_type (wpAny_bind (wpAny_pure (wpAny_pure ⟨_, rfl, wpAny_pure h⟩))) htake)
    | exact wpAny_bind (wpAny_bind (m := Builtin.Tuple.tupleExact _) (wpAny_newObj_type (wpAny_pure (wpAny_pure ⟨_, rfl, wpAny_pure h⟩)) htake))
    | exact wpAny_bind (wpAny_bind (m := Builtin.Tuple.tupleExact _) (wpAny_newObj_type (wpAny_pure ⟨_, rfl, wpAny_pure h⟩) htake))
end
theorem strRev_picked (x : Str) : ((Builtin.Str.strSliceIndices none none (-1) x.length).filterMap (x.cps[·]?)) = x.cps.toList.reverse := by
  rw [PyProof.Rows.picked_rev, PyProof.Rows.filterMap_get, List.map_map]
  · apply List.ext_getElem?
    intro i
    by_cases hi : i < x.cps.size
    · have h1 : x.cps.size - 1 - i < x.cps.size := by omega
      rw [List.getElem?_map, List.getElem?_range (show i < x.length from hi), List.getElem?_reverse (by simpa using hi)]
      simp only [Option.map_some, Array.length_toList, Function.comp]
      show some (x.cps.getD (x.cps.size - 1 - i) 0) = _
      simp [Array.getD, h1]
    · rw [List.getElem?_eq_none (by simpa [Str.length] using hi), List.getElem?_eq_none (by simpa using hi)]
  · intro i hi
    obtain ⟨k, hk, rfl⟩ := List.mem_map.mp hi
    have hk' : k < x.length := List.mem_range.mp hk
    show x.length - 1 - k < x.length
    omega
section
variable {X : Cx}
def tRevD (K : PySem.W.Frag) (te : TE) : TE := fun σ H Q => te σ H fun x H1 => ∃ (W : Addr → Prop) (dx d : D), Wok W H1 ∧ Dp K (hid W H1) x dx ∧ opRev dx = some d ∧ ∀ v H', ResF K W H1 H' v d → Q v H'
theorem pe_revD {e : Expr} {te : TE} {k : Nat} {p1 p2 p3 pos : Pos} (he : PE X e te) : PE X (.Subscript e (.Slice none none (some (.UnaryOp .USub (.Constant (.int 1) k p1) p2)) p3) pos) (tRevD X.K te) := by
  refine ⟨fun pins s σ H Q I h => ?_⟩
  refine Subscript_ (thn (he.run pins s σ H _ I h) fun v s1 ⟨x, H1, I1, r1, q1⟩ => ?_)
  obtain ⟨W, dx, d, w, hx, eo, q⟩ := q1
  have hst : PO X (some (.UnaryOp .USub (.Constant (.int 1) k p1) p2)) (tPart (tUn (rU fun i => .int (-i)) (tC (.int 1)))) := po_some (pe_un un_neg pe_int)
  refine wpAny_Slice (thn (po_none.run pins s1 σ H1 (fun o H2 => o = none ∧ H2 = H1) I1 ⟨rfl, rfl⟩) fun vl s2 ⟨l, H2, I2, pl, el, e2⟩ => ?_)
  subst el e2
  refine thn (po_none.run pins s2 σ H2 (fun o H3 => o = none ∧ H3 = H2) I2 ⟨rfl, rfl⟩) fun vu s3 ⟨u, H3, I3, pu, eu, e3⟩ => ?_
  subst eu e3
  refine thn (hst.run pins s3 σ H3 (fun o H4 => o = some (-1) ∧ H4 = H3) I3 ⟨1, rfl, -1, rfl, rfl, rfl⟩) fun vs s4 ⟨o, H4, I4, ps, eo2, e4⟩ => ?_
  subst eo2 e4
  have I5 : Inv X pins σ H4 { s4 with heap := s4.heap.push { cls := .type "slice", data := .fields #[vl, vu, vs] } } := I4.kept (t' := s4.toks) fun b ob q => Heap.get?_push_of_some _ q
  show wpAny (model X.prog X.w) X.A (subscriptTail e (.Slice none none (some (.UnaryOp .USub (.Constant (.int 1) k p1) p2)) p3) v (.ref s4.heap.objs.size)) (EP X pins σ Q) X.xe { s4 with heap := s4.heap.push { cls := .type "slice", data := .fields #[vl, vu, vs] } }
  cases pl
  cases pu
  obtain ⟨tk, rfl⟩ : ∃ tk, vs = .int (-1) tk := by cases ps with | int i t => exact ⟨t, rfl⟩
  cases dx with
  | list ds =>
    cases eo
    obtain ⟨a, xs, rfl, sx, ax⟩ := dp_list hx
    cases r1
    obtain ⟨its, r, ht, hz⟩ := I5.list (sqL_sub hid_le sx)
    have hlen := r.length
    refine tail_any (ops := [.ref a, .ref s4.heap.objs.size]) ht.isList.typeIs (PySem.slot_list_getitem.lookup) ?_ (by with_unfolding_all rfl)
    refine wpAny_getItem_list_slice ht.isList (Heap.IsSliceOf.new _ .none .none (.int (-1) tk)) .none .none ps (by decide) ?_ (by rw [List.size_toArray]; omega)
    rw [PySem.W.krv_pick]
    refine ⟨.ref _, _, I5.laid (t' := s4.toks) (o := .lst xs.reverse) (fun b ob q => Heap.get?_push_of_some _ q) (Nat.le_refl _) ?_, rfl, q _ _ (ResF.lst w (I5.hok.fresh (Nat.le_refl _)) (DpAll.reverse ax))⟩
    exact ⟨by rw [List.length_reverse]; exact hz, _, 0, r.reverse, Heap.get?_push_size _ rfl⟩
  | tuple ds =>
    cases eo
    obtain ⟨a, xs, rfl, sx, ax⟩ := dp_tup hx
    cases r1
    obtain ⟨its, r, ht, hz⟩ := I5.tuple (sqT_sub hid_le sx)
    have hlen := r.length
    refine tail_any (ops := [.ref a, .ref s4.heap.objs.size]) ht.typeIs (PyProof.Rows.slot_tuple_getitem.lookup) ?_ (by with_unfolding_all rfl)
    refine getItem_tuple_rev ht (Heap.IsSliceOf.new _ .none .none (.int (-1) tk)) ?_ (by rw [List.size_toArray]; omega)
    refine ⟨.ref _, _, I5.laid (t' := s4.toks) (o := .tup xs.reverse) (fun b ob q => Heap.get?_push_of_some _ q) (Nat.le_refl _) ?_, rfl, q _ _ (ResF.tup w (I5.hok.fresh (Nat.le_refl _)) (DpAll.reverse ax))⟩
    exact ⟨by rw [List.length_reverse]; exact hz, _, r.reverse, IsTup.new _ _⟩
  | str z =>
    obtain ⟨b, rfl⟩ := chk_some (show chk _ _ = some d from eo)
    have b := of_decide_eq_true b
    rw [line_eq] at b
    rw [dp_str hx] at r1
    obtain ⟨tz, rfl⟩ := r1
    refine tail_any (ops := [.ref s4.heap.objs.size]) (PySem.typeIs_str _ z tz) (PySem.F.slot_str_getitem.lookup) ?_ (by with_unfolding_all rfl)
    refine wpAny_getItem_str_slice (l := none) (u := none) (st := some (-1, tk)) ⟨_, Heap.get?_push_size _ rfl, rfl, rfl⟩ rfl ?_
    have e1 : sliceMade z tz none none (some (-1, tk)) = .str ⟨z.cps.toList.reverse.toArray⟩ := by
      unfold sliceMade slicePicked
      rw [if_neg (by
        have : ((((some ((-1 : Int), tk)).map (·.1)).getD 1 == 1)) = false := rfl
        rw [this]; simp)]
      show Made.str ⟨((Builtin.Str.strSliceIndices none none (-1) z.length).filterMap (z.cps[·]?)).toArray⟩ = _
      rw [strRev_picked]
    rw [e1]
    refine ⟨?_, .str _, H4, I5.tok _, ⟨_, rfl⟩, q _ _ (ResF.str _)⟩
    show z.cps.toList.reverse.toArray.size ≤ sizeLine
    rw [List.size_toArray, List.length_reverse, Array.length_toList]
    exact b
  | _ => cases eo
end
end Dl

set_option maxRecDepth 100000
set_option maxHeartbeats 2000000
/-! enumerate(tuple). -/
namespace Dl
open PySem PySem.Spec L2
open PyProof.Rows hiding St
set_option maxHeartbeats 1000000 in
theorem meets_enum_new {v : Value} {o : Obj} {H : Heap → Prop} (B : Begins v o H) :
    Meets (Builtin.«enumerate.__new__» ⟨[.type "enumerate", v], []⟩) (fun _ R s => H s.heap ∧
      R (.ok (.ret (.ref (s.heap.push o).objs.size))) { s with heap := (s.heap.push o).push { cls := .type "enumerate", data := .fields #[.none, .bool false, .ref s.heap.objs.size, rawInt 0, .none, .none] } }) :=
  .of_wp fun prog w A R s h => by
    obtain ⟨hp, g, d, tk, os⟩ := s; obtain ⟨h1, h⟩ := h
    have hsub := sub_enumerate
    have q1 : ∀ {A' : Around} {E : Value → Shared → Prop} {Q : Value → Shared → Prop}, Q (.ref hp.objs.size) ⟨hp.push o, g, d, tk, os⟩ → wpAny (model prog w) A' (pyIter v) Q E ⟨hp, g, d, tk, os⟩ :=
      fun q => B.iter prog w _ _ ⟨hp, g, d, tk, os⟩ _ h1 q
    wp_walk using q1
    refine wpAny_stack_any fun st => wpAny_pure ?_
    split
    · rename_i c _ _ _ _ _
      cases (c == Value.type "enumerate")
      · wp_walk using q1
        exact ⟨_, rfl, h⟩
      · wp_walk using q1
        exact ⟨_, rfl, h⟩
    · wp_walk using q1
      exact ⟨_, rfl, h⟩
section
variable {prog : Program} {w : World} {A : Around} {E : Value → Shared → Prop} {s : Shared}
theorem call_enum_begins {v : Value} {o : Obj} {H : Heap → Prop} {Q : Value → Shared → Prop} (B : Begins v o H) (h1 : H s.heap)
    (h : ∀ h', IsEnum h' (s.heap.objs.size + 1) s.heap.objs.size 0 .none → h'.get? s.heap.objs.size = some o → h'.objs.size = s.heap.objs.size + 2 →
      (∀ b o, s.heap.get? b = some o → h'.get? b = some o) → Q (.ref (s.heap.objs.size + 1)) { s with heap := h' }) :
    wpAny (model prog w) A (call (.type "enumerate") [v]) Q E s := by
  refine callType_new F.called_enumerate (by decide) (F.typeCall_enumerate_1 _) (F.newCall_enumerate_1 _) (fun obj => F.args_object_init_2 obj _) F.entry_enumerate_new
    (meets_enum_new B) ⟨h1, ?_⟩
  have hz : (s.heap.push o).objs.size = s.heap.objs.size + 1 := Heap.size_push ..
  show _ ∧ _
  rw [hz]
  have he : IsEnum ((s.heap.push o).push { cls := .type "enumerate", data := .fields #[.none, .bool false, .ref s.heap.objs.size, rawInt 0, .none, .none] }) (s.heap.objs.size + 1) s.heap.objs.size 0 .none := by
    have := Heap.get?_push_size (s.heap.push o) (o := { cls := .type "enumerate", data := .fields #[.none, .bool false, .ref s.heap.objs.size, rawInt 0, .none, .none] }) rfl
    rw [hz] at this; exact this
  exact ⟨⟨_, he, rfl⟩, h _ he (Heap.get?_push_of_some _ (Heap.get?_push_size _ B.free)) (by rw [Heap.size_push, hz]) fun b o x => Heap.get?_push_of_some _ (Heap.get?_push_of_some _ x)⟩
end
def IteT (K : PySem.W.Frag) (a : Addr) : It :=
  ⟨fun i H => ∃ (xs : List V) (x : V), SqT K H a xs ∧ xs[i]? = some x, fun i H v H' => ∃ T x, v = .ref T ∧ H T = none ∧ H' = upd H T (.tup [.int (i : Nat), x]) ∧ ∀ xs, SqT K H a xs → xs[i]? = some x, fun i H => ∃ xs : List V, SqT K H a xs ∧ xs.length ≤ i⟩
theorem turn_enumT {P : Program} {w : World} {K : PySem.W.Frag} {elts : List Expr} {kk : Nat} {tpos : Pos} (a e it : Addr) :
    Turn P w K (.Tuple elts kk tpos) (IteT K a) [e, it] e (fun i h => (∃ old, IsEnum h e it ((i : Nat) : Int) old) ∧ h.IsTupleIter it a i ∧ e ≠ it ∧ e ≠ a ∧ it ≠ a) where
  mem := by simp
  obj := fun i h st b hb => by
    obtain ⟨⟨old, he⟩, ⟨o, ho, hc, hd⟩, _⟩ := st
    have e' : b = e ∨ b = it := by simpa using hb
    rcases e' with z | z
    · rw [z]; exact ⟨_, he, fun v q => nomatch q⟩
    · rw [z]; exact ⟨o, ho, fun v q => by rw [hd] at q; cases q⟩
  keep := fun i h h' st k => let ⟨⟨old, he⟩, hi, hne⟩ := st; ⟨⟨old, k e (by simp) _ he⟩, hi.at fun o q => k it (by simp) o q, hne⟩
  item := by
    intro X hP hw hK hc i pins s σ H E I hf st hg
    subst hP hw hK
    obtain ⟨⟨old, he⟩, hit, hne, hne1, hne2⟩ := st
    obtain ⟨xs, x, hq, hx⟩ := hg
    obtain ⟨its, rv, p, hz⟩ := I.tuple hq
    obtain ⟨u, hu, ru⟩ := rv.get hx
    have hel : e < s.heap.objs.size := Heap.lt_size he
    have hil : it < s.heap.objs.size := by obtain ⟨_, q, _⟩ := hit; exact Heap.lt_size q
    refine wpAny_pyNext_enum_itemD (Draws.tuple (A := X.A.in1) (I.ok.hd hc) it a (Ne.symm hne2) its.toArray) he ⟨hit, (show s.heap.IsTuple a its.toArray from p)⟩ (i := i) ?_ hne (by simp [hne, hne1]) fun x' h' tk hPx ho hst' hT hsz hk => ?_
    · have := (List.getElem?_eq_some_iff.mp hu).1
      simpa using this
    have ex : x' = u := by
      have : its[i]? = some x' := by simpa using hPx
      rw [hu] at this
      exact (Option.some.inj this).symm
    subst ex
    refine ⟨_, rfl, wpAny_letOwnedTupleGo_enum (s := { s with heap := h', toks := tk + 1 }) ho fun h'' he' sb => ?_⟩
    have hT2 : h''.get? s.heap.objs.size = some { cls := .type "tuple", data := .seq #[.int i tk, x'] } := (sb.2 _ (Nat.ne_of_gt hel)).trans hT
    have new : ObjOk X.prog X.w (upd H s.heap.objs.size (.tup [.int (i : Nat), x])) h'' s.heap.objs.size (.tup [.int (i : Nat), x]) :=
      ⟨by show 2 ≤ sizeLine; decide, [.int i tk, x'], .cons ⟨_, rfl⟩ (.cons ru .nil), ⟨_, hT2, rfl, _, rfl⟩⟩
    have I1 : Inv X pins σ (upd H s.heap.objs.size (.tup [.int (i : Nat), x])) { s with heap := h'', toks := tk + 1 } :=
      I.turnedNew (ch := [e, it]) (fun b ob hb q => (sb.2 b (fun z => hb (by simp [z]))).trans (hk b ob (fun z => hb (by simp [z])) (fun z => hb (by simp [z])) q)) hf (Nat.le_refl _) new
    refine ⟨.ref s.heap.objs.size, _, I1, rfl, ⟨_, x, rfl, I.hok.fresh (Nat.le_refl _), rfl, fun ys hy => by rw [I.tuple_inj hy hq]; exact hx⟩, ⟨⟨x', ?_⟩, hst'.1.at fun o q => (sb.2 it (Ne.symm hne)).trans q, hne, hne1, hne2⟩, fun b hb => ?_⟩
    · have e1 : ((i + 1 : Nat) : Int) = (i : Int) + 1 := by omega
      rw [e1]; exact he'
    · have hb' : b < s.heap.objs.size := by
        have e' : b = e ∨ b = it := by simpa using hb
        rcases e' with z | z
        · rw [z]; exact hel
        · rw [z]; exact hil
      rw [upd_ne (Nat.ne_of_lt hb')]
      exact (hf b hb).1
  done := by
    intro X hP hw hK hc i pins s σ H E I hf st hg
    subst hP hw hK
    obtain ⟨⟨old, he⟩, hit, hne, hne1, hne2⟩ := st
    obtain ⟨xs, hq, hx⟩ := hg
    obtain ⟨its, rv, p, hz⟩ := I.tuple hq
    obtain ⟨f0, f1, f2, f3, f4, f5⟩ := hf it (by simp)
    have hl := rv.length
    refine wpAny_pyNext_enum_endD (n := i) (fp := [it, a]) (P := fun _ _ => False) (St := fun j h => j = i ∧ h.IsTupleIter it a i ∧ h.IsTuple a its.toArray) ?_ he ⟨rfl, hit, (show s.heap.IsTuple a its.toArray from p)⟩ fun h' eb => ⟨rfl, I.turned (t' := s.toks) (fun b o hb q => eb b o hb q) f0 f1 f3 f4 f5⟩
    exact {
      live := fun j h st => let ⟨_, ⟨o, ho, _⟩, _⟩ := st; ⟨o, ho⟩
      frame := fun j h h' st k => ⟨st.1, st.2.1.at fun o q => k it (by simp) o q, st.2.2.at fun o q => k a (by simp) o q⟩
      item := fun j s' Q E hj st => absurd hj (by rw [st.1]; exact Nat.lt_irrefl _)
      done := fun s' Q E st hE => wpAny_nextOf_tuple_end (A := X.A.in1) (I.ok.hd hc) st.2.1 st.2.2 (by simp; omega) hE }
  self := fun A i s Q E st h => let ⟨⟨_, he⟩, _⟩ := st; wpAny_pyIter_enum he h
def iEnumT (K : PySem.W.Frag) (ta : TA) : TI := fun σ H R => ta σ H fun vs H1 => ∃ a xs, vs = [.ref a] ∧ SqT K H1 a xs ∧ R (IteT K a) H1
theorem pi_enumT {X : Cx} {e : Expr} {ta : TA} {p pos tpos : Pos} {elts : List Expr} {kk : Nat} (hg : Gl X "enumerate") (hm : X.mg "enumerate" = none) (ha : PA X [e] ta) (hs : starEach [e] X.env = [(false, eval e X.env)] := by rfl) :
    PI X (.Tuple elts kk tpos) (.Call (.Name "enumerate" p) [e] [] pos) (iEnumT X.K ta) := by
  refine ⟨fun pins s σ H R I h => ?_⟩
  refine Call_ (ld_blt I hg hm boot_enumerate (PyProof.Rows.callWith_type1 (thn (ha.run pos pins s σ H _ I h) fun us s1 ⟨vs, H1, I1, r1, q1⟩ => ?_) hs rfl))
  obtain ⟨a, xs, ex, hq, q⟩ := q1
  subst ex
  cases r1 with
  | cons r rr =>
    cases rr
    cases r
    obtain ⟨its, rv, p', hz⟩ := I1.tuple hq
    have hal : a < s1.heap.objs.size := by obtain ⟨o, ho, _⟩ := p'; exact Heap.lt_size ho
    refine call_enum_begins (begins_tuple a its.toArray) (show s1.heap.IsTuple a its.toArray from p') fun h' he hit hsz hk => wpAny_pyIter_enum he ?_
    have I2 : Inv X pins σ H1 { s1 with heap := h' } := I1.kept (t' := s1.toks) hk
    refine ⟨s1.heap.objs.size + 1, [s1.heap.objs.size + 1, s1.heap.objs.size], _, _, H1, rfl, I2, turn_enumT a (s1.heap.objs.size + 1) s1.heap.objs.size, ⟨⟨.none, he⟩, ⟨_, hit, rfl, rfl⟩, Nat.succ_ne_self _, Nat.ne_of_gt (Nat.lt_succ_of_lt hal), Nat.ne_of_gt hal⟩, fun b hb => ?_, q⟩
    have e' : b = s1.heap.objs.size + 1 ∨ b = s1.heap.objs.size := by simpa using hb
    have hle : s1.heap.objs.size ≤ b := by
      rcases e' with z | z
      · rw [z]; exact Nat.le_add_right _ _
      · rw [z]; exact Nat.le_refl _
    exact I1.fpOk hle (I1.hok.fresh hle)
end Dl

set_option maxRecDepth 100000
set_option maxHeartbeats 2000000
/-! The evaluator's pieces are sound over the hand layer: expressions. -/
namespace Dl
open PySem PySem.Spec L2
open PyProof.Rows hiding St

def WO (X : Cx) (e : Option Expr) : TO := fun σ H Q => ∀ (pins : List (Addr × Obj)) (s : Shared), Inv X pins σ H s →
  wpAny (model X.prog X.w) X.A (evalPart e X.env) (fun u s' => ∃ o H', Inv X pins σ H' s' ∧ IsPart u o ∧ Q o H') X.xe s
theorem po_wo {X : Cx} {e : Option Expr} : PO X e (WO X e) := ⟨fun pins s _ _ _ I h => h pins s I⟩
theorem WO.of {X : Cx} {e : Option Expr} {σ : SSt} {H : Hp} {t : TO} {Q : Option Int → Hp → Prop} (h : PO X e t) (q : t σ H Q) : WO X e σ H Q := fun pins s I => h.run pins s σ H Q I q

structure Good (T : TB) (P : Pm) (pn : List Nat) : Prop where
  ok : P.Ok
  pin : ∀ q ∈ P.pins, pn.contains q.1 = true
  tb : P.tb = T
theorem Good.free {T : TB} {P : Pm} {pn : List Nat} (g : Good T P pn) {i : Nat} (h : pn.contains i = false) : ∀ q ∈ P.pins, q.1 ≠ i := fun q hq e => by
  have := g.pin q hq
  rw [e, h] at this
  cases this
structure Out (fr : Bool) (K : PySem.W.Frag) (P : Pm) (ρ : Rho) (σ : SSt) (H : Hp) (ρ' : Rho) (H' : Hp) (v : V) (d : D) : Prop where
  nx : Nx K P ρ σ H ρ' σ H'
  dp : Dp K (hid (Wr P ρ' σ) H') v d
  fr : fr = true → ∀ ds, d = .list ds → Fr K P ρ' σ H H' v ds
def DE (X : Cx) (pn : List Nat) (e : Expr) (fr : Bool) (f : EV) : Prop := ∀ (P : Pm) (ρ : Rho) (σ : SSt) (H : Hp) (d : D) (ρ' : Rho) (Q : VK), Good (tbX X) P pn → ER X.K P ρ σ H → f ρ = some (d, ρ') →
  (∀ v H', Out fr X.K P ρ σ H ρ' H' v d → Q v H') → WE X e σ H Q
def DT (X : Cx) (pn : List Nat) (e : Expr) (f : TV) : Prop := ∀ (P : Pm) (ρ : Rho) (σ : SSt) (H : Hp) (b : Bool) (ρ' : Rho) (Q : Bool → Hp → Prop), Good (tbX X) P pn → ER X.K P ρ σ H → f ρ = some (b, ρ') →
  (∀ H', Nx X.K P ρ σ H ρ' σ H' → Q b H') → WT X e σ H Q
def DW (X : Cx) (pn : List Nat) (e : Expr) (f : TV) : Prop := ∀ (P : Pm) (ρ : Rho) (σ : SSt) (H : Hp) (b : Bool) (ρ' : Rho) (Q : Bool → Hp → Prop), Good (tbX X) P pn → ER X.K P ρ σ H → f ρ = some (b, ρ') →
  (∀ H', Nx X.K P ρ σ H ρ' σ H' → Q b H') → WW X e σ H Q
def DA (X : Cx) (pn : List Nat) (es : List Expr) (f : AV) : Prop := ∀ (P : Pm) (ρ : Rho) (σ : SSt) (H : Hp) (ds : List D) (ρ' : Rho) (Q : List V → Hp → Prop), Good (tbX X) P pn → ER X.K P ρ σ H → f ρ = some (ds, ρ') →
  (∀ vs H', Nx X.K P ρ σ H ρ' σ H' → DpAll X.K (hid (Wr P ρ' σ) H') vs ds → Q vs H') → WA X es σ H Q
def DO (X : Cx) (pn : List Nat) (e : Option Expr) (f : Rho → Option (Option Int × Rho)) : Prop := ∀ (P : Pm) (ρ : Rho) (σ : SSt) (H : Hp) (o : Option Int) (ρ' : Rho) (Q : Option Int → Hp → Prop), Good (tbX X) P pn → ER X.K P ρ σ H → f ρ = some (o, ρ') →
  (∀ H', Nx X.K P ρ σ H ρ' σ H' → Q o H') → WO X e σ H Q

theorem ER.wok {K : PySem.W.Frag} {P : Pm} {ρ : Rho} {σ : SSt} {H : Hp} (e : ER K P ρ σ H) : Wok (Wr P ρ σ) H := fun _ w => e.wr_some w
section
variable {K : PySem.W.Frag} {P : Pm} {ρ ρ1 ρ2 ρ' : Rho} {σ : SSt} {H H1 H2 H3 H' : Hp} {v : V} {d : D} {fr : Bool}
theorem Out.of (n : Nx K P ρ σ H ρ2 σ H2) (r : ResF K (Wr P ρ2 σ) H2 H3 v d) : Out fr K P ρ σ H ρ2 H3 v d :=
  ⟨n.trans (n.er.ext r.sub), r.dp, fun _ ds e => by
    obtain ⟨p, vs, ev, hp, hl, hr⟩ := r.fr ds e
    subst ev
    exact Fr.of n.er hp (n.dom p hp) r.sub hl hr⟩
theorem Out.res (n : Nx K P ρ σ H ρ2 σ H2) (r : Res K (Wr P ρ2 σ) H2 H3 v d) : Out false K P ρ σ H ρ2 H3 v d :=
  ⟨n.trans (n.er.ext r.sub), r.dp, fun z => by cases z⟩
theorem Out.weak (o : Out fr K P ρ σ H ρ' H' v d) : Out false K P ρ σ H ρ' H' v d := ⟨o.nx, o.dp, fun z => by cases z⟩
theorem Out.same (n : Nx K P ρ σ H ρ' σ H') (h : Dp K (hid (Wr P ρ' σ) H') v d) : Out false K P ρ σ H ρ' H' v d := ⟨n, h, fun z => by cases z⟩
theorem Fr.nx (n : Nx K P ρ σ H ρ1 σ H1) {ds : List D} (f : Fr K P ρ2 σ H1 H2 v ds) : Fr K P ρ2 σ H H2 v ds := by
  obtain ⟨p, vs, e, hp, r⟩ := f
  exact ⟨p, vs, e, n.dom p hp, r⟩
theorem Out.after (n : Nx K P ρ σ H ρ1 σ H1) (o : Out fr K P ρ1 σ H1 ρ2 H2 v d) : Out fr K P ρ σ H ρ2 H2 v d :=
  ⟨n.trans o.nx, o.dp, fun z ds e => (o.fr z ds e).nx n⟩
end

/-! ### taking combinators apart -/
theorem bind_some {α β : Type} {o : Option α} {f : α → Option β} {b : β} (h : (match o with | some a => f a | none => none) = some b) : ∃ a, o = some a ∧ f a = some b := by
  cases o with
  | none => cases h
  | some a => exact ⟨a, rfl, h⟩
theorem pair_some {α : Type} {d d' : α} {ρ ρ' : Rho} {o : Option α} (h : (o.map fun x => (x, ρ)) = some (d', ρ')) : o = some d' ∧ ρ = ρ' := by
  cases o with
  | none => cases h
  | some x => cases h; exact ⟨rfl, rfl⟩

/-! ### where one stands -/
structure Cok (X : Cx) (c : Ct) : Prop where
  calm : X.calm = true
  N : X.N = c.N
  nd : c.N.Nodup
  sc : X.env.scope = c.sc
  un : X.A.units + 200 < cLine
  fn : X.fn = c.fn
  bl : ∀ x, c.B.contains x = true → X.mg x = none
theorem slot_some {N : List Str} {x : Str} {i : Nat} (h : slotOf N x = some i) : N[i]? = some x := by
  obtain ⟨hl, h1, _⟩ := List.findIdx?_eq_some_iff_getElem.mp h
  rw [List.getElem?_eq_getElem hl]
  exact congrArg some (of_decide_eq_true h1)
theorem vis_ok {X : Cx} {c : Ct} (k : Cok X c) {x : Str} (h : visB c.sc x = true) : Vis X.env.scope x := by
  unfold visB at h
  rw [k.sc]
  split at h
  · exact .inl (by assumption)
  · exact .inr (.inl (by assumption))
  · exact .inr (.inr (by assumption))
  · cases h
theorem loc_ok {X : Cx} {c : Ct} (k : Cok X c) {x : Str} (h : locB c.sc x = true) : Loc X.env.scope x := by
  unfold locB at h
  rw [k.sc]
  split at h
  · exact .inl (by assumption)
  · exact .inr (by assumption)
  · cases h
theorem locL_ok {X : Cx} {c : Ct} (k : Cok X c) {x : Str} (h : locL c.sc x = true) : X.env.scope.names.lookup x = some .local := by
  unfold locL at h
  rw [k.sc]
  split at h
  · assumption
  · cases h
theorem glo_ok {X : Cx} {c : Ct} (k : Cok X c) {x : Str} (h : gloB c.sc x = true) : Gl X x := by
  unfold gloB at h
  show X.env.scope.names.lookup x = some .globalImplicit
  rw [k.sc]
  split at h
  · assumption
  · cases h
theorem odd_ok {x : Str} (h : oddName x = false) : (x == ("__debug__" : Str)) = false ∧ (x == ("__classdict__" : Str)) = false ∧ x ≠ "__name__" := by
  unfold oddName at h
  obtain ⟨h, h3⟩ := Bool.or_eq_false_iff.mp h
  obtain ⟨h1, h2⟩ := Bool.or_eq_false_iff.mp h
  exact ⟨beq_eq_false_iff_ne.mpr (of_decide_eq_false h1), beq_eq_false_iff_ne.mpr (of_decide_eq_false h2), of_decide_eq_false h3⟩
theorem name_ok {X : Cx} {c : Ct} (k : Cok X c) {e : Expr} {i : Nat} (h : nameSlot c e = some i) : PE X e (tVar i) ∧ ∃ x p, e = .Name x p ∧ X.N[i]? = some x := by
  unfold nameSlot at h
  split at h
  · rename_i x p
    split at h
    · rename_i h1 h2
      obtain ⟨d1, d2, d3⟩ := odd_ok h2
      have e1 : X.N[i]? = some x := by rw [k.N]; exact slot_some h
      exact ⟨pe_var e1 (vis_ok k h1) d1 d2, x, p, rfl, e1⟩
    · cases h
  · cases h
theorem blt_ok {X : Cx} {c : Ct} (k : Cok X c) {x : Str} (h : bltB c x = true) : Gl X x ∧ X.mg x = none ∧ (x == ("__debug__" : Str)) = false ∧ x ≠ "__name__" := by
  unfold bltB at h
  obtain ⟨h, _⟩ := and_tt h
  obtain ⟨h, h3⟩ := and_tt h
  obtain ⟨h1, h2⟩ := and_tt h
  have h3 : oddName x = false := by simpa using h3
  obtain ⟨d1, d2, d3⟩ := odd_ok h3
  exact ⟨glo_ok k h1, k.bl x h2, d1, d3⟩

/-! ### names and constants -/
section
variable {X : Cx} {pn : List Nat} {e a b c : Expr} {fr : Bool} {f fa fb fc : EV} {pos : Pos}
theorem DE.weak (h : DE X pn e fr f) : DE X pn e false f := fun P ρ σ H d ρ' Q g er ef q => h P ρ σ H d ρ' Q g er ef fun v H' o => q v H' o.weak
theorem de_fail : DE X pn e fr C.fail := fun P ρ σ H d ρ' Q g er ef q => by cases ef
theorem dt_fail : DT X pn e C.fail := fun P ρ σ H d ρ' Q g er ef q => by cases ef
theorem dw_fail : DW X pn e C.fail := fun P ρ σ H d ρ' Q g er ef q => by cases ef
theorem da_fail {es : List Expr} : DA X pn es C.fail := fun P ρ σ H d ρ' Q g er ef q => by cases ef
theorem de_const {k : Const} {j : Nat} : DE X pn (.Constant k j pos) fr (C.const k) := fun P ρ σ H d ρ' Q g er ef q => by
  unfold C.const at ef
  split at ef
  · cases ef
    exact WE.of pe_int (q _ _ (Out.of (Nx.refl er) (ResF.int _)))
  · cases ef
    exact WE.of pe_str (q _ _ (Out.of (Nx.refl er) (ResF.str _)))
  · cases ef
    exact WE.of pe_bl (q _ _ (Out.of (Nx.refl er) (ResF.bl _)))
  · cases ef
    exact WE.of pe_non (q _ _ (Out.of (Nx.refl er) ResF.non))
  · cases ef
theorem de_varV {i : Nat} (h : PE X e (tVar i)) : DE X pn e false (C.varV i) := fun P ρ σ H d ρ' Q g er ef q => by
  unfold C.varV at ef
  split at ef
  · rename_i d0 e0
    cases ef
    obtain ⟨v, h1, h2⟩ := er.val i _ e0
    exact WE.of h ⟨v, h1, q _ _ (Out.same (Nx.refl er) h2)⟩
  · cases ef
theorem de_var {i : Nat} (h : PE X e (tVar i)) (hp : pn.contains i = false) : DE X pn e false (C.var i) := fun P ρ σ H d ρ' Q g er ef q => by
  unfold C.var at ef
  split at ef
  · rename_i d0 e0
    cases ef
    obtain ⟨v, h1, h2⟩ := er.val i _ e0
    exact WE.of h ⟨v, h1, q _ _ (Out.same (Nx.refl er) h2)⟩
  · rename_i ds e0
    cases ef
    obtain ⟨n, a, h1, h2⟩ := er.freeze e0 (g.free hp)
    exact WE.of h ⟨.ref a, h1, q _ _ (Out.same n h2)⟩
  · cases ef

/-! ### operators -/
theorem de_un1 {f : D → Option D} {op : UnaryOp} (h : UnR X (unaryOp op) (fun x H Q => ∃ (W : Addr → Prop) (dx d : D), Wok W H ∧ Dp X.K (hid W H) x dx ∧ f dx = some d ∧ ∀ v H', ResF X.K W H H' v d → Q v H')) (ha : DE X pn a false fa) :
    DE X pn (.UnaryOp op a pos) fr (C.un1 f fa) := fun P ρ σ H d ρ' Q g er ef q => by
  unfold C.un1 at ef
  split at ef
  · rename_i x ρ1 e1
    obtain ⟨e2, rfl⟩ := pair_some (d := d) ef
    exact WE.of (pe_un h pe_we) (ha P ρ σ H x ρ1 _ g er e1 fun v H1 o => ⟨Wr P ρ1 σ, x, d, o.nx.er.wok, o.dp, e2, fun u H2 r => q _ _ (Out.of o.nx r)⟩)
  · cases ef
theorem bin_some {f : D → D → Option D} {ρ ρ' : Rho} {d : D} (h : C.bin f fa fb ρ = some (d, ρ')) : ∃ x ρ1 y, fa ρ = some (x, ρ1) ∧ fb ρ1 = some (y, ρ') ∧ f x y = some d := by
  unfold C.bin at h
  split at h
  · rename_i x ρ1 e1
    split at h
    · rename_i y ρ2 e2
      obtain ⟨e3, rfl⟩ := pair_some (d := d) h
      exact ⟨x, ρ1, y, e1, e2, e3⟩
    · cases h
  · cases h
theorem de_op {op : Operator} (ha : DE X pn a false fa) (hb : DE X pn b false fb) : DE X pn (.BinOp a op b pos) fr (C.bin (binOp op) fa fb) := fun P ρ σ H d ρ' Q g er ef q => by
  obtain ⟨x, ρ1, y, e1, e2, e3⟩ := bin_some ef
  exact WE.of (pe_op (opD op) pe_we pe_we) (ha P ρ σ H x ρ1 _ g er e1 fun u H1 o1 => hb P ρ1 σ H1 y ρ' _ g o1.nx.er e2 fun v H2 o2 =>
    ⟨Wr P ρ' σ, x, y, d, o2.nx.er.wok, o2.nx.keep o1.dp, o2.dp, e3, fun w H3 r => q _ _ (Out.of (o1.nx.trans o2.nx) r)⟩)
theorem cmp_some {f : D → D → Option Bool} {ρ ρ' : Rho} {d : Bool} (h : C.cmp f fa fb ρ = some (d, ρ')) : ∃ x ρ1 y, fa ρ = some (x, ρ1) ∧ fb ρ1 = some (y, ρ') ∧ f x y = some d := by
  unfold C.cmp at h
  split at h
  · rename_i x ρ1 e1
    split at h
    · rename_i y ρ2 e2
      obtain ⟨e3, rfl⟩ := pair_some (d := d) h
      exact ⟨x, ρ1, y, e1, e2, e3⟩
    · cases h
  · cases h
theorem ofT_some {t : TV} {ρ ρ' : Rho} {d : D} (h : C.ofT t ρ = some (d, ρ')) : ∃ b, t ρ = some (b, ρ') ∧ d = .bool b := by
  unfold C.ofT at h
  obtain ⟨p, e1, e2⟩ := Option.map_eq_some_iff.mp h
  cases e2
  exact ⟨p.1, e1, rfl⟩
theorem de_cmp {op : CmpOp} (hu : X.A.units + 200 < cLine) (hm : behindInMarks op b = false) (ha : DE X pn a false fa) (hb : DE X pn b false fb) : DE X pn (.Compare a [op] [b] pos) fr (C.ofT (C.cmp (cmpOp op) fa fb)) := fun P ρ σ H d ρ' Q g er ef q => by
  obtain ⟨k, e0, rfl⟩ := ofT_some ef
  obtain ⟨x, ρ1, y, e1, e2, e3⟩ := cmp_some e0
  exact WE.of (pe_cmpR (opC hu op) pe_we pe_we hm) (ha P ρ σ H x ρ1 _ g er e1 fun u H1 o1 => hb P ρ1 σ H1 y ρ' _ g o1.nx.er e2 fun v H2 o2 =>
    ⟨Wr P ρ' σ, x, y, k, o2.nx.keep o1.dp, o2.dp, e3, q _ _ (Out.of (o1.nx.trans o2.nx) (ResF.bl _))⟩)
theorem dt_cmp {op : CmpOp} (hu : X.A.units + 200 < cLine) (hm : behindInMarks op b = false) (ha : DE X pn a false fa) (hb : DE X pn b false fb) : DT X pn (.Compare a [op] [b] pos) (C.cmp (cmpOp op) fa fb) := fun P ρ σ H k ρ' Q g er ef q => by
  obtain ⟨x, ρ1, y, e1, e2, e3⟩ := cmp_some ef
  exact WT.of (pt_cmpR (opC hu op) pe_we pe_we hm) (ha P ρ σ H x ρ1 _ g er e1 fun u H1 o1 => hb P ρ1 σ H1 y ρ' _ g o1.nx.er e2 fun v H2 o2 =>
    ⟨Wr P ρ' σ, x, y, k, o2.nx.keep o1.dp, o2.dp, e3, k, rfl, q _ (o1.nx.trans o2.nx)⟩)
theorem chain_some {f f' : D → D → Option Bool} {ρ ρ' : Rho} {k : Bool} (h : C.chain f f' fa fb fc ρ = some (k, ρ')) : ∃ x ρ1 y ρ2, fa ρ = some (x, ρ1) ∧ fb ρ1 = some (y, ρ2) ∧ ((f x y = some false ∧ k = false ∧ ρ' = ρ2) ∨ (f x y = some true ∧ ∃ z, fc ρ2 = some (z, ρ') ∧ f' y z = some k)) := by
  unfold C.chain at h
  split at h
  · rename_i x ρ1 e1
    split at h
    · rename_i y ρ2 e2
      split at h
      · rename_i e3
        split at h
        · rename_i z ρ3 e4
          obtain ⟨e5, rfl⟩ := pair_some (d := k) h
          exact ⟨x, ρ1, y, ρ2, e1, e2, .inr ⟨e3, z, e4, e5⟩⟩
        · cases h
      · rename_i e3
        cases h
        exact ⟨x, ρ1, y, _, e1, e2, .inl ⟨e3, rfl, rfl⟩⟩
      · cases h
    · cases h
  · cases h
theorem chain_core {op op' : CmpOp} {P : Pm} {ρ ρ' : Rho} {σ : SSt} {H : Hp} {k : Bool} {Q : VK} (g : Good (tbX X) P pn) (er : ER X.K P ρ σ H) (ha : DE X pn a false fa) (hb : DE X pn b false fb) (hc : DE X pn c false fc) (ef : C.chain (cmpOp op) (cmpOp op') fa fb fc ρ = some (k, ρ'))
    (q : ∀ H', Nx X.K P ρ σ H ρ' σ H' → Q (.bl k) H') : tChain (rC X.K (cmpOp op)) (rC X.K (cmpOp op')) (WE X a) (WE X b) (WE X c) σ H Q := by
  obtain ⟨x, ρ1, y, ρ2, e1, e2, e3⟩ := chain_some ef
  refine ha P ρ σ H x ρ1 _ g er e1 fun u H1 o1 => hb P ρ1 σ H1 y ρ2 _ g o1.nx.er e2 fun v H2 o2 => ?_
  have n := o1.nx.trans o2.nx
  rcases e3 with ⟨e3, rfl, rfl⟩ | ⟨e3, z, e4, e5⟩
  · exact ⟨Wr P ρ' σ, x, y, false, o2.nx.keep o1.dp, o2.dp, e3, false, rfl, q _ n⟩
  · exact ⟨Wr P ρ2 σ, x, y, true, o2.nx.keep o1.dp, o2.dp, e3, true, rfl, hc P ρ2 σ H2 z ρ' _ g o2.nx.er e4 fun w H3 o3 => ⟨Wr P ρ' σ, y, z, k, o3.nx.keep o2.dp, o3.dp, e5, q _ (n.trans o3.nx)⟩⟩
theorem de_chain {op op' : CmpOp} (hu : X.A.units + 200 < cLine) (hm : lastMarks [op, op'] [b, c] = false) (ha : DE X pn a false fa) (hb : DE X pn b false fb) (hc : DE X pn c false fc) : DE X pn (.Compare a [op, op'] [b, c] pos) fr (C.ofT (C.chain (cmpOp op) (cmpOp op') fa fb fc)) := fun P ρ σ H d ρ' Q g er ef q => by
  obtain ⟨k, e0, rfl⟩ := ofT_some ef
  exact WE.of (pe_chain (opC hu op) (opC hu op') pe_we pe_we pe_we hm) (chain_core g er ha hb hc e0 fun H' n => q _ _ (Out.of n (ResF.bl _)))
theorem dt_chain {op op' : CmpOp} (hu : X.A.units + 200 < cLine) (hm : lastMarks [op, op'] [b, c] = false) (ha : DE X pn a false fa) (hb : DE X pn b false fb) (hc : DE X pn c false fc) : DT X pn (.Compare a [op, op'] [b, c] pos) (C.chain (cmpOp op) (cmpOp op') fa fb fc) := fun P ρ σ H k ρ' Q g er ef q =>
  WT.of (pt_chain (opC hu op) (opC hu op') pe_we pe_we pe_we hm) (show tChain _ _ _ _ _ σ H _ from chain_core g er ha hb hc ef fun H' n => ⟨k, rfl, q _ n⟩)

/-! ### truth -/
theorem test_some {ρ ρ' : Rho} {k : Bool} (h : C.test fa ρ = some (k, ρ')) : ∃ x, fa ρ = some (x, ρ') ∧ truth x = some k := by
  unfold C.test at h
  split at h
  · rename_i x ρ1 e1
    obtain ⟨e5, rfl⟩ := pair_some (d := k) h
    exact ⟨x, e1, e5⟩
  · cases h
theorem plain_isTrue (h : plainT e = true) (whole : Sem Value) : isTrue e X.env whole = (do let v ← whole; standAt e.pos; holding [v] (truthy v)) := by
  cases e with
  | UnaryOp op a p => cases op <;> first | rfl | cases h
  | BoolOp => cases h
  | IfExp => cases h
  | Compare => cases h
  | _ => rfl
theorem dt_test (h : plainT e = true) (ha : DE X pn e false fa) : DT X pn e (C.test fa) := fun P ρ σ H k ρ' Q g er ef q => by
  obtain ⟨x, e1, e2⟩ := test_some ef
  exact WT.of (pt_truth pe_we (plain_isTrue h)) (ha P ρ σ H x ρ' _ g er e1 fun v H1 o => ⟨k, truD (dp_le o.dp) e2, q _ o.nx⟩)
theorem not_some {t : TV} {ρ ρ' : Rho} {k : Bool} (h : C.not t ρ = some (k, ρ')) : ∃ b, t ρ = some (b, ρ') ∧ k = !b := by
  unfold C.not at h
  obtain ⟨p, e1, e2⟩ := Option.map_eq_some_iff.mp h
  cases e2
  exact ⟨p.1, e1, rfl⟩
theorem de_notT (ha : DE X pn a false fa) : DE X pn (.UnaryOp .Not a pos) fr (C.ofT (C.not (C.test fa))) := fun P ρ σ H d ρ' Q g er ef q => by
  obtain ⟨k, e0, rfl⟩ := ofT_some ef
  obtain ⟨b, e1, rfl⟩ := not_some e0
  obtain ⟨x, e2, e3⟩ := test_some e1
  exact WE.of (pe_notT pe_we) (ha P ρ σ H x ρ' _ g er e2 fun v H1 o => ⟨b, truD (dp_le o.dp) e3, q _ _ (Out.of o.nx (ResF.bl _))⟩)
theorem dt_not {t : TV} (ha : DT X pn a t) : DT X pn (.UnaryOp .Not a pos) (C.not t) := fun P ρ σ H k ρ' Q g er ef q => by
  obtain ⟨b, e1, rfl⟩ := not_some ef
  exact WT.of (pt_not pt_wt) (ha P ρ σ H b ρ' _ g er e1 fun H1 n => q _ n)
theorem dt_dw (h : DW X pn e f') : DT X pn e f' := fun P ρ σ H k ρ' Q g er ef q => fun pins s I => h P ρ σ H k ρ' Q g er ef q _ pins s I
theorem and_some {s t : TV} {ρ ρ' : Rho} {k : Bool} (h : C.and s t ρ = some (k, ρ')) : ∃ b ρ1, s ρ = some (b, ρ1) ∧ ((b = true ∧ t ρ1 = some (k, ρ')) ∨ (b = false ∧ k = false ∧ ρ' = ρ1)) := by
  unfold C.and at h
  split at h
  · rename_i ρ1 e1
    exact ⟨true, ρ1, e1, .inl ⟨rfl, h⟩⟩
  · rename_i ρ1 e1
    cases h
    exact ⟨false, _, e1, .inr ⟨rfl, rfl, rfl⟩⟩
  · cases h
theorem or_some {s t : TV} {ρ ρ' : Rho} {k : Bool} (h : C.or s t ρ = some (k, ρ')) : ∃ b ρ1, s ρ = some (b, ρ1) ∧ ((b = false ∧ t ρ1 = some (k, ρ')) ∨ (b = true ∧ k = true ∧ ρ' = ρ1)) := by
  unfold C.or at h
  split at h
  · rename_i ρ1 e1
    cases h
    exact ⟨true, _, e1, .inr ⟨rfl, rfl, rfl⟩⟩
  · rename_i ρ1 e1
    exact ⟨false, ρ1, e1, .inl ⟨rfl, h⟩⟩
  · cases h
theorem dw_andL {tv : Expr → TV} : ∀ {es : List Expr}, (∀ e ∈ es, DT X pn e (tv e)) → DW X pn (.BoolOp .And es pos) (andL (es.map tv))
  | [], _ => dw_fail
  | [a], h => fun P ρ σ H k ρ' Q g er ef q => WW.of (pw_and1 pt_wt) (h a List.mem_cons_self P ρ σ H k ρ' _ g er ef q)
  | a :: b :: r, h => fun P ρ σ H k ρ' Q g er ef q => by
    obtain ⟨b1, ρ1, e1, e2⟩ := and_some (show C.and (tv a) (andL ((b :: r).map tv)) ρ = some (k, ρ') from ef)
    refine WW.of (pw_and pt_wt pw_ww) (h a List.mem_cons_self P ρ σ H b1 ρ1 _ g er e1 fun H1 n => ?_)
    rcases e2 with ⟨rfl, e2⟩ | ⟨rfl, rfl, rfl⟩
    · exact dw_andL (es := b :: r) (fun e he => h e (List.mem_cons_of_mem _ he)) P ρ1 σ H1 k ρ' _ g n.er e2 fun H2 n2 => q _ (n.trans n2)
    · exact q _ n
theorem dw_orL {tv : Expr → TV} : ∀ {es : List Expr}, (∀ e ∈ es, DT X pn e (tv e)) → DW X pn (.BoolOp .Or es pos) (orL (es.map tv))
  | [], _ => dw_fail
  | [a], h => fun P ρ σ H k ρ' Q g er ef q => WW.of (pw_or1 pt_wt) (h a List.mem_cons_self P ρ σ H k ρ' _ g er ef q)
  | a :: b :: r, h => fun P ρ σ H k ρ' Q g er ef q => by
    obtain ⟨b1, ρ1, e1, e2⟩ := or_some (show C.or (tv a) (orL ((b :: r).map tv)) ρ = some (k, ρ') from ef)
    refine WW.of (pw_or pt_wt pw_ww) (h a List.mem_cons_self P ρ σ H b1 ρ1 _ g er e1 fun H1 n => ?_)
    rcases e2 with ⟨rfl, e2⟩ | ⟨rfl, rfl, rfl⟩
    · exact dw_orL (es := b :: r) (fun e he => h e (List.mem_cons_of_mem _ he)) P ρ1 σ H1 k ρ' _ g n.er e2 fun H2 n2 => q _ (n.trans n2)
    · exact q _ n
theorem andV_some {ρ ρ' : Rho} {d : D} (h : C.andV fa fb ρ = some (d, ρ')) : ∃ x ρ1, fa ρ = some (x, ρ1) ∧ ((truth x = some true ∧ fb ρ1 = some (d, ρ')) ∨ (truth x = some false ∧ d = x ∧ ρ' = ρ1)) := by
  unfold C.andV at h
  split at h
  · rename_i x ρ1 e1
    split at h
    · rename_i e2
      exact ⟨x, ρ1, e1, .inl ⟨e2, h⟩⟩
    · rename_i e2
      cases h
      exact ⟨_, _, e1, .inr ⟨e2, rfl, rfl⟩⟩
    · cases h
  · cases h
theorem orV_some {ρ ρ' : Rho} {d : D} (h : C.orV fa fb ρ = some (d, ρ')) : ∃ x ρ1, fa ρ = some (x, ρ1) ∧ ((truth x = some false ∧ fb ρ1 = some (d, ρ')) ∨ (truth x = some true ∧ d = x ∧ ρ' = ρ1)) := by
  unfold C.orV at h
  split at h
  · rename_i x ρ1 e1
    split at h
    · rename_i e2
      cases h
      exact ⟨_, _, e1, .inr ⟨e2, rfl, rfl⟩⟩
    · rename_i e2
      exact ⟨x, ρ1, e1, .inl ⟨e2, h⟩⟩
    · cases h
  · cases h
theorem de_andV {ev : Expr → EV} : ∀ {es : List Expr}, (∀ e ∈ es, DE X pn e false (ev e)) → DE X pn (.BoolOp .And es pos) false (andVL (es.map ev))
  | [], _ => de_fail
  | [a], h => fun P ρ σ H d ρ' Q g er ef q => WE.of (pe_one pe_we) (h a List.mem_cons_self P ρ σ H d ρ' _ g er ef q)
  | a :: b :: r, h => fun P ρ σ H d ρ' Q g er ef q => by
    obtain ⟨x, ρ1, e1, e2⟩ := andV_some (show C.andV (ev a) (andVL ((b :: r).map ev)) ρ = some (d, ρ') from ef)
    refine WE.of (pe_andT pe_we pe_we) (h a List.mem_cons_self P ρ σ H x ρ1 _ g er e1 fun v H1 o => ?_)
    rcases e2 with ⟨e2, e3⟩ | ⟨e2, rfl, rfl⟩
    · exact ⟨true, truD (dp_le o.dp) e2, de_andV (es := b :: r) (fun e he => h e (List.mem_cons_of_mem _ he)) P ρ1 σ H1 d ρ' _ g o.nx.er e3 fun w H2 o2 => q _ _ (o2.after o.nx)⟩
    · exact ⟨false, truD (dp_le o.dp) e2, q _ _ o⟩
theorem de_orV {ev : Expr → EV} : ∀ {es : List Expr}, (∀ e ∈ es, DE X pn e fr (ev e)) → DE X pn (.BoolOp .Or es pos) fr (orVL (es.map ev))
  | [], _ => de_fail
  | [a], h => fun P ρ σ H d ρ' Q g er ef q => WE.of (pe_one pe_we) (h a List.mem_cons_self P ρ σ H d ρ' _ g er ef q)
  | a :: b :: r, h => fun P ρ σ H d ρ' Q g er ef q => by
    obtain ⟨x, ρ1, e1, e2⟩ := orV_some (show C.orV (ev a) (orVL ((b :: r).map ev)) ρ = some (d, ρ') from ef)
    refine WE.of (pe_orT pe_we pe_we) (h a List.mem_cons_self P ρ σ H x ρ1 _ g er e1 fun v H1 o => ?_)
    rcases e2 with ⟨e2, e3⟩ | ⟨e2, rfl, rfl⟩
    · exact ⟨false, truD (dp_le o.dp) e2, de_orV (es := b :: r) (fun e he => h e (List.mem_cons_of_mem _ he)) P ρ1 σ H1 d ρ' _ g o.nx.er e3 fun w H2 o2 => q _ _ (o2.after o.nx)⟩
    · exact ⟨true, truD (dp_le o.dp) e2, q _ _ o⟩
theorem de_ifx {t : TV} {tst : Expr} (ht : DT X pn tst t) (ha : DE X pn a false fa) (hb : DE X pn b false fb) : DE X pn (.IfExp tst a b pos) false (C.ifx t fa fb) := fun P ρ σ H d ρ' Q g er ef q => by
  unfold C.ifx at ef
  split at ef
  · rename_i ρ1 e1
    exact WE.of (pe_ifExp pt_wt pe_we pe_we) (ht P ρ σ H true ρ1 _ g er e1 fun H1 n => ha P ρ1 σ H1 d ρ' _ g n.er ef fun v H2 o => q _ _ (o.after n))
  · rename_i ρ1 e1
    exact WE.of (pe_ifExp pt_wt pe_we pe_we) (ht P ρ σ H false ρ1 _ g er e1 fun H1 n => hb P ρ1 σ H1 d ρ' _ g n.er ef fun v H2 o => q _ _ (o.after n))
  · cases ef
end
end Dl

set_option maxRecDepth 100000
set_option maxHeartbeats 2000000
/-! Tables at the hand layer and in the evaluator: t[e], e in t, sorted(t), sorted(set(..)). -/
namespace Dl
open PySem PySem.Spec L2
open PyProof.Rows hiding St
/-- y is the table t, x a key of it -/
structure KeyAt (X : Cx) (H : Hp) (F : Hp) (a b : Addr) (tab : TabD) (t : TabK) (k : NestedKey) (d : D) : Prop where
  at_ : H a = some (TabO X.prog X.w a t)
  of : tabOf X.K F tab t
  sub : Sub F H
  key : keyT d = some k
  dp : Dp X.K F (.ref b) d
theorem tabOf.keysH {X : Cx} {F H : Hp} {tab : TabD} {t : TabK} (r : tabOf X.K F tab t) (s : Sub F H) : keysIn X.K H t := (r.sub s).keys
section
variable {X : Cx}
def rGetT (X : Cx) : R2 := fun x y H Q => ∃ (F : Hp) (a b : Addr) (tab : TabD) (t : TabK) (k : NestedKey) (d y0 : D), x = .ref a ∧ y = .ref b ∧ KeyAt X H F a b tab t k d ∧ tabGet tab k = some y0 ∧ ∀ v, Dp X.K F v y0 → Q v H
theorem ix_tab (hu : X.A.units + 200 < cLine) : IxR X (rGetT X) := by
  intro value slice pins s σ H x y v u Q I rx ry h hs
  obtain ⟨F, a, b, tab, t, k, d, y0, rfl, rfl, ka, hg, q⟩ := h
  obtain rfl : v = Value.ref a := rx
  obtain rfl : u = Value.ref b := ry
  obtain ⟨z, hz, rz⟩ := (ka.of.get k).2 y0 hg
  obtain ⟨_, h1, h2⟩ := keyT_some ka.key
  obtain ⟨_, _, xs, _, dd⟩ := tab_rd I ka.at_ (ka.of.keysH ka.sub)
  exact tail_any dd.typeIs slot_dict_getitem.lookup (n_getItem (by omega) I ka.at_ (ka.of.keysH ka.sub) h1 h2 (dp_sub ka.sub _ _ ka.dp) hz fun w' s' I' rw' => ⟨z, H, I', rw', q z rz⟩) hs
def rInT (X : Cx) (neg : Bool) : R2 := fun x y H Q => ∃ (F : Hp) (a b : Addr) (tab : TabD) (t : TabK) (k : NestedKey) (d : D), x = .ref b ∧ y = .ref a ∧ KeyAt X H F a b tab t k d ∧ Q (.bl ((tabGet tab k).isSome != neg)) H
theorem op_tabIn (hu : X.A.units + 200 < cLine) : OpR X (compareOp .In) (rInT X false) := by
  intro pins s σ H x y v u Q I rx ry h
  obtain ⟨F, a, b, tab, t, k, d, rfl, rfl, ka, q⟩ := h
  obtain rfl : v = Value.ref b := rx
  obtain rfl : u = Value.ref a := ry
  obtain ⟨_, h1, h2⟩ := keyT_some ka.key
  refine n_in (by omega) I ka.at_ (ka.of.keysH ka.sub) h1 h2 (dp_sub ka.sub _ _ ka.dp) fun s' I' => ⟨.bl _, H, I', ?_, q⟩
  rw [(ka.of.get k).1, Bool.bne_false]
  rfl
theorem op_tabNotIn (hu : X.A.units + 200 < cLine) : OpR X (compareOp .NotIn) (rInT X true) := by
  intro pins s σ H x y v u Q I rx ry h
  obtain ⟨F, a, b, tab, t, k, d, rfl, rfl, ka, q⟩ := h
  obtain rfl : v = Value.ref b := rx
  obtain rfl : u = Value.ref a := ry
  obtain ⟨_, h1, h2⟩ := keyT_some ka.key
  refine n_notIn (by omega) I ka.at_ (ka.of.keysH ka.sub) h1 h2 (dp_sub ka.sub _ _ ka.dp) fun s' I' => ⟨.bl _, H, I', ?_, q⟩
  rw [(ka.of.get k).1, Bool.bne_true]
  rfl
theorem op_inTN (hu : X.A.units + 200 < cLine) {op : CmpOp} {neg : Bool} (h : inNeg op = some neg) : OpR X (compareOp op) (rInT X neg) := by
  cases op <;> cases h
  · exact op_tabIn hu
  · exact op_tabNotIn hu
/-- sorted(t) -/
def rSoT (X : Cx) : List V → Hp → VK → Prop := fun vs H Q => ∃ (W : Addr → Prop) (a : Addr) (tab : TabD) (t : TabK), vs = [V.ref a] ∧ H a = some (TabO X.prog X.w a t) ∧ tabOf X.K (hid W H) tab t ∧ Wok W H ∧ sortB1 (tab.map (·.1)) = true ∧ ∀ v H', ResF X.K W H H' v (.list (isort (tab.map (·.1)))) → Q v H'
theorem cr_soT (hc : X.calm = true) (hu : X.A.units + 200 < cLine) : CallR X (.builtin "sorted") (rSoT X) := by
  intro pins s σ H vs us Q I r h
  obtain ⟨W, a, tab, t, rfl, ha, ho, w, hb, q⟩ := h
  rw [Vals.ref1 r]
  exact t_sorted hc hu I ha ho w hb q
/-- t[e] = v -/
def rSetT (X : Cx) : TSet := fun o i v H Q => ∃ (a b : Addr) (t : TabK) (k : NestedKey) (d : D), o = .ref a ∧ i = .ref b ∧ H a = some (TabO X.prog X.w a t) ∧ keysIn X.K H t ∧ t.length < sizeLine ∧ keyT d = some k ∧ Dp X.K H (.ref b) d ∧ Q (upd H a (TabO X.prog X.w a (putN t k b v)))
theorem set_tab (hu : X.A.units + 200 < cLine) : PSet X (rSetT X) := by
  intro pins s σ H o i v ov iv u Q I ro ri rv h
  obtain ⟨a, b, t, k, d, rfl, rfl, ha, hk, hl, hkey, hb, q⟩ := h
  obtain rfl : ov = Value.ref a := ro
  obtain rfl : iv = Value.ref b := ri
  obtain ⟨_, h1, h2⟩ := keyT_some hkey
  exact n_setItem (by omega) I ha hk h1 h2 hb hl rv fun s' I' => ⟨_, I', q⟩

/-! ### the evaluator's pieces -/
variable {pn : List Nat} {e a b : Expr} {fr : Bool} {f fa fb : EV} {pos : Pos}
theorem key_ref {K : PySem.W.Frag} {F : Hp} {v : V} {d : D} {k : NestedKey} (h : Dp K F v d) (hk : keyT d = some k) : ∃ b, v = .ref b := by
  obtain ⟨⟨es, rfl⟩, _, _⟩ := keyT_some hk
  obtain ⟨b, xs, e, _⟩ := dp_tup h
  exact ⟨b, e⟩
theorem tab_of_slot {P : Pm} {ρ : Rho} {σ : SSt} {H : Hp} {i : Nat} {tab : TabD} (g : Good (tbX X) P pn) (er : ER X.K P ρ σ H) (h : ρ[i]? = some (.tab tab)) : ∃ a t, σ[i]? = some (some (V.ref a)) ∧ H a = some (TabO X.prog X.w a t) ∧ tabOf X.K (hid (Wr P ρ σ) H) tab t := by
  obtain ⟨a, t, h1, _, h3, h4⟩ := er.tab i tab h
  rw [g.tb] at h3
  exact ⟨a, t, h1, h3, h4⟩
theorem isTab_some {o : Option SV} (h : C.isTab o = true) : ∃ tab, o = some (.tab tab) := by
  unfold C.isTab at h
  split at h
  · exact ⟨_, rfl⟩
  · cases h
theorem subTab_some {i : Nat} {ρ ρ' : Rho} {d : D} (h : C.subTab i fb ρ = some (d, ρ')) : ∃ tab0 k tab nk, ρ[i]? = some (.tab tab0) ∧ fb ρ = some (k, ρ') ∧ ρ'[i]? = some (.tab tab) ∧ keyT k = some nk ∧ tabGet tab nk = some d := by
  unfold C.subTab at h
  split at h
  · rename_i e0
    obtain ⟨tab0, e0⟩ := isTab_some e0
    split at h
    · rename_i k ρ1 e1
      split at h
      · rename_i tab nk e2 e3
        obtain ⟨e4, rfl⟩ := pair_some (d := d) h
        exact ⟨tab0, k, tab, nk, e0, e1, e2, e3, e4⟩
      · cases h
    · cases h
  · cases h
theorem de_subTab {i : Nat} (hu : X.A.units + 200 < cLine) (hp : PlainIx b) (h : PE X a (tVar i)) (hb : DE X pn b false fb) : DE X pn (.Subscript a b pos) false (C.subTab i fb) := fun P ρ σ H d ρ' Q g er ef q => by
  obtain ⟨tab0, k, tab, nk, e0, e1, e2, e3, e4⟩ := subTab_some ef
  obtain ⟨a0, t0, h1, _, _⟩ := tab_of_slot g er e0
  refine WE.of (pe_ix (ix_tab hu) h pe_we hp) ⟨.ref a0, h1, hb P ρ σ H k ρ' _ g er e1 fun u H1 o => ?_⟩
  obtain ⟨a1, t, g1, g2, g3⟩ := tab_of_slot g o.nx.er e2
  rw [h1] at g1
  cases g1
  obtain ⟨b0, rfl⟩ := key_ref o.dp e3
  exact ⟨_, a0, b0, tab, t, nk, k, d, rfl, rfl, ⟨g2, g3, hid_le, e3, o.dp⟩, e4, fun v r => q _ _ (Out.same o.nx r)⟩
theorem inTab_some {i : Nat} {neg : Bool} {ρ ρ' : Rho} {d : Bool} (h : C.inTab neg i fa ρ = some (d, ρ')) : ∃ k tab nk, fa ρ = some (k, ρ') ∧ ρ'[i]? = some (.tab tab) ∧ keyT k = some nk ∧ ((tabGet tab nk).isSome != neg) = d := by
  unfold C.inTab at h
  split at h
  · rename_i k ρ1 e1
    split at h
    · rename_i tab nk e2 e3
      cases h
      exact ⟨k, tab, nk, e1, e2, e3, rfl⟩
    · cases h
  · cases h
theorem in_core {i : Nat} {neg : Bool} {P : Pm} {ρ ρ' : Rho} {σ : SSt} {H : Hp} {d : Bool} {Q : VK} (g : Good (tbX X) P pn) (er : ER X.K P ρ σ H) (ha : DE X pn a false fa) (ef : C.inTab neg i fa ρ = some (d, ρ')) (q : ∀ H', Nx X.K P ρ σ H ρ' σ H' → Q (.bl d) H') :
    tOp (rInT X neg) (WE X a) (tVar i) σ H Q := by
  obtain ⟨k, tab, nk, e1, e2, e3, e4⟩ := inTab_some ef
  refine ha P ρ σ H k ρ' _ g er e1 fun u H1 o => ?_
  obtain ⟨a1, t, g1, g2, g3⟩ := tab_of_slot g o.nx.er e2
  obtain ⟨b0, rfl⟩ := key_ref o.dp e3
  exact ⟨.ref a1, g1, _, a1, b0, tab, t, nk, k, rfl, rfl, ⟨g2, g3, hid_le, e3, o.dp⟩, by rw [e4]; exact q _ o.nx⟩
theorem de_inTab {i : Nat} {op : CmpOp} {neg : Bool} (hu : X.A.units + 200 < cLine) (hm : behindInMarks op b = false) (hn : inNeg op = some neg) (ha : DE X pn a false fa) (h : PE X b (tVar i)) : DE X pn (.Compare a [op] [b] pos) fr (C.ofT (C.inTab neg i fa)) := fun P ρ σ H d ρ' Q g er ef q => by
  obtain ⟨k, e0, rfl⟩ := ofT_some ef
  exact WE.of (pe_cmpR (op_inTN hu hn) pe_we h hm) (in_core g er ha e0 fun H' n => q _ _ (Out.of n (ResF.bl _)))
theorem dt_inTab {i : Nat} {op : CmpOp} {neg : Bool} (hu : X.A.units + 200 < cLine) (hm : behindInMarks op b = false) (hn : inNeg op = some neg) (ha : DE X pn a false fa) (h : PE X b (tVar i)) : DT X pn (.Compare a [op] [b] pos) (C.inTab neg i fa) := fun P ρ σ H k ρ' Q g er ef q =>
  WT.of (pt_cmpR (op_inTN hu hn) pe_we h hm) (show tOp _ _ _ σ H _ from in_core g er ha ef fun H' n => ⟨k, rfl, q _ n⟩)
end
end Dl

set_option maxRecDepth 100000
set_option maxHeartbeats 2000000
/-! Arguments, displays, subscripts, built-in calls. -/
namespace Dl
open PySem PySem.Spec L2
open PyProof.Rows hiding St
section
variable {X : Cx} {pn : List Nat} {e a b o : Expr} {es : List Expr} {fr : Bool} {f fa fb fc : EV} {pos cp ap : Pos}

theorem star_cons {env : Env} (h : noStar e = true) : starEach (e :: es) env = (false, eval e env) :: starEach es env := by
  cases e <;> first | rfl | cases h
theorem nostar_any {env : Env} : ∀ {es : List Expr}, es.all noStar = true → (backTo pos (starEach es env)).any (·.1) = false
  | [], _ => rfl
  | e :: r, h => by
    obtain ⟨h1, h2⟩ := and_tt (show (noStar e && r.all noStar) = true from h)
    rw [star_cons h1]
    show (false || (backTo pos (starEach r env)).any (·.1)) = false
    rw [nostar_any h2]
    rfl

/-! ### argument lists -/
theorem da_nil : DA X pn [] C.nil := fun P ρ σ H ds ρ' Q g er ef q => by
  cases ef
  exact WA.of pa_nil (q _ _ (Nx.refl er) .nil)
theorem cons_some {r : AV} {ρ ρ' : Rho} {ds : List D} (h : C.cons fa r ρ = some (ds, ρ')) : ∃ x ρ1 xs, fa ρ = some (x, ρ1) ∧ r ρ1 = some (xs, ρ') ∧ ds = x :: xs := by
  unfold C.cons at h
  split at h
  · rename_i x ρ1 e1
    split at h
    · rename_i y ρ2 e2
      cases h
      exact ⟨x, ρ1, y, e1, e2, rfl⟩
    · cases h
  · cases h
theorem da_cons {r : AV} (hn : noStar e = true) (ha : DE X pn e false fa) (hr : DA X pn es r) : DA X pn (e :: es) (C.cons fa r) := fun P ρ σ H ds ρ' Q g er ef q => by
  obtain ⟨x, ρ1, xs, e1, e2, rfl⟩ := cons_some ef
  exact WA.of (pa_cons pe_we pa_wa (star_cons hn)) (ha P ρ σ H x ρ1 _ g er e1 fun v H1 o => hr P ρ1 σ H1 xs ρ' _ g o.nx.er e2 fun vs H2 n h => q _ _ (o.nx.trans n) (.cons (n.keep o.dp) h))
theorem star_some {r : AV} {ρ ρ' : Rho} {ds : List D} (h : C.star fa r ρ = some (ds, ρ')) : ∃ x ρ1 xs ys, fa ρ = some (x, ρ1) ∧ (x = .tuple xs ∨ x = .list xs) ∧ r ρ1 = some (ys, ρ') ∧ ds = xs ++ ys := by
  unfold C.star at h
  split at h
  · rename_i x ρ1 e1
    split at h
    · rename_i y ρ2 e2
      cases h
      exact ⟨_, ρ1, x, y, e1, .inl rfl, e2, rfl⟩
    · cases h
  · rename_i x ρ1 e1
    split at h
    · rename_i y ρ2 e2
      cases h
      exact ⟨_, ρ1, x, y, e1, .inr rfl, e2, rfl⟩
    · cases h
  · cases h
theorem da_star {r : AV} (ha : DE X pn e false fa) (hr : DA X pn es r) : DA X pn (.Starred e pos :: es) (C.star fa r) := fun P ρ σ H ds ρ' Q g er ef q => by
  obtain ⟨x, ρ1, xs, ys, e1, ex, e2, rfl⟩ := star_some ef
  refine WA.of (StX.pa_star pe_we pa_wa) (ha P ρ σ H x ρ1 _ g er e1 fun v H1 o => ?_)
  rcases ex with rfl | rfl
  · obtain ⟨p, us, rfl, sx, ax⟩ := dp_tup o.dp
    exact ⟨p, us, rfl, .inl (sqT_sub hid_le sx), hr P ρ1 σ H1 ys ρ' _ g o.nx.er e2 fun vs H2 n h => q _ _ (o.nx.trans n) (DpAll.append (n.keepAll ax) h)⟩
  · obtain ⟨p, us, rfl, sx, ax⟩ := dp_list o.dp
    exact ⟨p, us, rfl, .inr (sqL_sub hid_le sx), hr P ρ1 σ H1 ys ρ' _ g o.nx.er e2 fun vs H2 n h => q _ _ (o.nx.trans n) (DpAll.append (n.keepAll ax) h)⟩
/-- what evA does with an item -/
def argOf (ev : Expr → EV) : Expr → Bool × EV
  | .Starred x _ => (true, ev x)
  | e => (false, ev e)
theorem argOf_plain {ev : Expr → EV} (h : noStar e = true) : argOf ev e = (false, ev e) := by
  cases e <;> first | rfl | cases h
theorem da_args {ev : Expr → EV} (h : ∀ e, DE X pn e false (ev e)) : ∀ es : List Expr, DA X pn es (argsL (es.map (argOf ev)))
  | [] => da_nil
  | e :: r => by
    rw [List.map_cons]
    cases hn : noStar e with
    | true =>
      rw [argOf_plain hn]
      exact da_cons hn (h e) (da_args h r)
    | false =>
      cases e with
      | Starred x p => exact da_star (h x) (da_args h r)
      | _ => cases hn

/-! ### displays -/
theorem tup_some {r : AV} {ρ ρ' : Rho} {d : D} (h : C.tup r ρ = some (d, ρ')) : ∃ xs, r ρ = some (xs, ρ') ∧ xs.length ≤ line ∧ d = .tuple xs := by
  unfold C.tup at h
  split at h
  · rename_i xs ρ1 e1
    obtain ⟨e5, rfl⟩ := pair_some (d := d) h
    obtain ⟨hb, rfl⟩ := chk_some e5
    exact ⟨xs, e1, of_decide_eq_true hb, rfl⟩
  · cases h
theorem lst_some {r : AV} {ρ ρ' : Rho} {d : D} (h : C.lst r ρ = some (d, ρ')) : ∃ xs, r ρ = some (xs, ρ') ∧ xs.length ≤ line ∧ d = .list xs := by
  unfold C.lst at h
  split at h
  · rename_i xs ρ1 e1
    obtain ⟨e5, rfl⟩ := pair_some (d := d) h
    obtain ⟨hb, rfl⟩ := chk_some e5
    exact ⟨xs, e1, of_decide_eq_true hb, rfl⟩
  · cases h
theorem de_tup {r : AV} {j : Nat} (hr : DA X pn es r) : DE X pn (.Tuple es j pos) fr (C.tup r) := fun P ρ σ H d ρ' Q g er ef q => by
  obtain ⟨xs, e1, hl, rfl⟩ := tup_some ef
  rw [line_eq] at hl
  exact WE.of (pe_tup pa_wa) (hr P ρ σ H xs ρ' _ g er e1 fun vs H1 n h => ⟨by rw [DpAll.length h]; exact hl, fun p hp => q _ _ (Out.of n (ResF.tup n.er.wok hp h))⟩)
theorem de_lst {r : AV} (hr : DA X pn es r) : DE X pn (.List es pos) fr (C.lst r) := fun P ρ σ H d ρ' Q g er ef q => by
  obtain ⟨xs, e1, hl, rfl⟩ := lst_some ef
  rw [line_eq] at hl
  exact WE.of (pe_lst pa_wa) (hr P ρ σ H xs ρ' _ g er e1 fun vs H1 n h => ⟨by rw [DpAll.length h]; exact hl, fun p hp => q _ _ (Out.of n (ResF.lst n.er.wok hp h))⟩)
theorem rep_dp {K : PySem.W.Frag} {H : Hp} {vs : List V} {xs : List D} (h : DpAll K H vs xs) : ∀ k : Nat, DpAll K H (List.replicate k vs).flatten (rep k xs)
  | 0 => .nil
  | k + 1 => by
    unfold rep
    rw [List.replicate_succ, List.flatten_cons, List.replicate_succ, List.flatten_cons]
    exact DpAll.append h (rep_dp h k)
theorem de_repL {r : AV} {pos2 : Pos} (hr : DA X pn es r) (hb : DE X pn b false fb) : DE X pn (.BinOp (.List es pos2) .Mult b pos) fr (C.repL r fb) := fun P ρ σ H d ρ' Q g er ef q => by
  unfold C.repL at ef
  split at ef
  · rename_i xs ρ1 e1
    split at ef
    · rename_i k ρ2 e2 e3
      have e2 := of_decide_eq_true e2
      obtain ⟨e5, rfl⟩ := pair_some (d := d) ef
      obtain ⟨hk, rfl⟩ := chk_some e5
      obtain ⟨hk1, hk2⟩ := and_tt hk
      obtain ⟨k1, k2⟩ := in62_ok hk1
      have hk2 := of_decide_eq_true hk2
      rw [line_eq] at e2 hk2
      refine WE.of (pe_op op_rep (pe_lst pa_wa) pe_we) (hr P ρ σ H xs ρ1 _ g er e1 fun vs H1 n h => ⟨by rw [DpAll.length h]; exact e2, fun p hp => ?_⟩)
      have n1 : Nx X.K P ρ1 σ H1 ρ1 σ (upd H1 p (.lst vs)) := n.er.ext (Sub.upd hp)
      have np : ¬ Own ρ1 σ p := fun w => n1.er.nw |> fun _ => by
        obtain ⟨us, z⟩ := n.er.own_some w
        rw [hp] at z; cases z
      refine hb P ρ1 σ _ (.int k) ρ2 _ g n1.er e3 fun u H2 o2 => ?_
      have hl : H2 p = some (.lst vs) := o2.nx.ev p _ upd_same np
      refine ⟨p, k, vs, rfl, dp_int o2.dp, hl, by omega, by omega, by rw [DpAll.length h]; exact hk2, fun p2 hp2 => q _ _ (Out.of (n.trans (n1.trans o2.nx)) (ResF.lst o2.nx.er.wok hp2 (rep_dp (o2.nx.keepAll (n1.keepAll h)) _)))⟩
    · cases ef
  · cases ef

/-! ### subscripts -/
theorem plain_ix {i : Expr} (h : isSlice i = false) : PlainIx i := by
  cases i with
  | Slice => cases h
  | _ => exact fun _ _ => rfl
theorem de_ix (hs : isSlice b = false) (ha : DE X pn a false fa) (hb : DE X pn b false fb) : DE X pn (.Subscript a b pos) false (C.bin item fa fb) := fun P ρ σ H d ρ' Q g er ef q => by
  obtain ⟨x, ρ1, y, e1, e2, e3⟩ := bin_some ef
  exact WE.of (pe_ix ixD pe_we pe_we (plain_ix hs)) (ha P ρ σ H x ρ1 _ g er e1 fun u H1 o1 => hb P ρ1 σ H1 y ρ' _ g o1.nx.er e2 fun v H2 o2 =>
    ⟨Wr P ρ' σ, x, y, d, o2.nx.er.wok, o2.nx.keep o1.dp, o2.dp, e3, fun w H3 r => q _ _ (Out.res (o1.nx.trans o2.nx) r)⟩)
theorem de_subOwn {i : Nat} (hs : isSlice b = false) (h : PE X a (tVar i)) (hb : DE X pn b false fb) : DE X pn (.Subscript a b pos) false (C.subOwn i fb) := fun P ρ σ H d ρ' Q g er ef q => by
  unfold C.subOwn at ef
  split at ef
  · rename_i ds0 e0
    split at ef
    · rename_i k ρ1 e1
      split at ef
      · rename_i ds e2
        obtain ⟨e5, rfl⟩ := pair_some (d := d) ef
        obtain ⟨a0, vs0, h1, _⟩ := er.own i ds0 e0
        refine WE.of (pe_ix ix_list h pe_we (plain_ix hs)) ⟨.ref a0, h1, hb P ρ σ H (.int k) ρ1 _ g er e1 fun u H1 o => ?_⟩
        obtain ⟨a1, vs1, g1, g2, g3, g4⟩ := o.nx.er.own i ds e2
        rw [h1] at g1; cases g1
        obtain ⟨z, hz, rz⟩ := DpAll.atI g4 e5
        exact ⟨a0, vs1, k, z, rfl, dp_int o.dp, .inl (.inl g3), hz, q _ _ (Out.same o.nx rz)⟩
      · cases ef
    · cases ef
  · exact de_ix hs (de_varV h) hb P ρ σ H d ρ' Q g er ef q
theorem part_some {ρ ρ' : Rho} {l : Option Int} (h : C.part fa ρ = some (l, ρ')) : ∃ i, fa ρ = some (.int i, ρ') ∧ l = some i := by
  unfold C.part at h
  split at h
  · rename_i i ρ1 e1
    cases h
    exact ⟨i, e1, rfl⟩
  · cases h
theorem do_none : DO X pn none C.noPart := fun P ρ σ H l ρ' Q g er ef q => by
  cases ef
  exact WO.of po_none (q _ (Nx.refl er))
theorem do_some (ha : DE X pn e false fa) : DO X pn (some e) (C.part fa) := fun P ρ σ H l ρ' Q g er ef q => by
  obtain ⟨i, e1, rfl⟩ := part_some ef
  exact WO.of (po_some pe_we) (ha P ρ σ H (.int i) ρ' _ g er e1 fun v H1 o => ⟨i, dp_int o.dp, q _ o.nx⟩)
theorem do_fail {x : Option Expr} : DO X pn x C.fail := fun P ρ σ H l ρ' Q g er ef q => by cases ef
theorem de_sl {lo hi : Option Expr} {fl fh : Rho → Option (Option Int × Rho)} {p2 : Pos} (ha : DE X pn e false fa) (hl : DO X pn lo fl) (hh : DO X pn hi fh) : DE X pn (.Subscript e (.Slice lo hi none p2) pos) fr (C.sl fa fl fh) := fun P ρ σ H d ρ' Q g er ef q => by
  unfold C.sl at ef
  split at ef
  · rename_i x ρ1 e1
    split at ef
    · rename_i l ρ2 e2
      split at ef
      · rename_i u ρ3 e3
        obtain ⟨e5, rfl⟩ := pair_some (d := d) ef
        exact WE.of (pe_slice slD pe_we po_wo po_wo) (ha P ρ σ H x ρ1 _ g er e1 fun v H1 o => hl P ρ1 σ H1 l ρ2 _ g o.nx.er e2 fun H2 n2 => hh P ρ2 σ H2 u ρ3 _ g n2.er e3 fun H3 n3 =>
          ⟨Wr P ρ3 σ, x, d, n3.er.wok, n3.keep (n2.keep o.dp), e5, fun w H4 r => q _ _ (Out.of (o.nx.trans (n2.trans n3)) r)⟩)
      · cases ef
    · cases ef
  · cases ef
theorem un1_some {f : D → Option D} {ρ ρ' : Rho} {d : D} (h : C.un1 f fa ρ = some (d, ρ')) : ∃ x, fa ρ = some (x, ρ') ∧ f x = some d := by
  unfold C.un1 at h
  split at h
  · rename_i x ρ1 e1
    obtain ⟨e2, rfl⟩ := pair_some (d := d) h
    exact ⟨x, e1, e2⟩
  · cases h
theorem de_rev {k : Nat} {p1 p2 p3 : Pos} (ha : DE X pn e false fa) : DE X pn (.Subscript e (.Slice none none (some (.UnaryOp .USub (.Constant (.int 1) k p1) p2)) p3) pos) fr (C.un1 opRev fa) := fun P ρ σ H d ρ' Q g er ef q => by
  obtain ⟨x, e1, e2⟩ := un1_some ef
  exact WE.of (pe_revD pe_we) (ha P ρ σ H x ρ' _ g er e1 fun v H1 o => ⟨Wr P ρ' σ, x, d, o.nx.er.wok, o.dp, e2, fun w H2 r => q _ _ (Out.of o.nx r)⟩)

/-! ### built-in calls -/
theorem da_one (hn : noStar a = true) {P : Pm} {ρ ρ' : Rho} {σ : SSt} {H : Hp} {x : D} {Q : List V → Hp → Prop} (ha : DE X pn a false fa) (g : Good (tbX X) P pn) (er : ER X.K P ρ σ H) (e1 : fa ρ = some (x, ρ')) (q : ∀ v H', Out false X.K P ρ σ H ρ' H' v x → Q [v] H') : WA X [a] σ H Q :=
  WA.of (pa_cons pe_we pa_nil (star_cons hn)) (ha P ρ σ H x ρ' _ g er e1 fun v H1 o => q v H1 o)
theorem da_two (hn : noStar a = true) (hm : noStar b = true) {P : Pm} {ρ ρ1 ρ' : Rho} {σ : SSt} {H : Hp} {x y : D} {Q : List V → Hp → Prop} (ha : DE X pn a false fa) (hb : DE X pn b false fb) (g : Good (tbX X) P pn) (er : ER X.K P ρ σ H) (e1 : fa ρ = some (x, ρ1)) (e2 : fb ρ1 = some (y, ρ'))
    (q : ∀ v w H', Nx X.K P ρ σ H ρ' σ H' → Dp X.K (hid (Wr P ρ' σ) H') v x → Dp X.K (hid (Wr P ρ' σ) H') w y → Q [v, w] H') : WA X [a, b] σ H Q :=
  WA.of (pa_cons pe_we (pa_cons pe_we pa_nil (star_cons hm)) (star_cons hn)) (ha P ρ σ H x ρ1 _ g er e1 fun v H1 o => hb P ρ1 σ H1 y ρ' _ g o.nx.er e2 fun w H2 o2 => q v w H2 (o.nx.trans o2.nx) (o2.nx.keep o.dp) o2.dp)
theorem de_blt1 {x : Str} {p : Pos} {id : String} {f : D → Option D} (hc : CallR X (.builtin id) (rF X.K f)) (hg : Gl X x ∧ X.mg x = none ∧ (x == ("__debug__" : Str)) = false ∧ x ≠ "__name__") (hv : bootBuiltins x = some (.builtin id)) (hn : noStar a = true) (ha : DE X pn a false fa) :
    DE X pn (.Call (.Name x p) [a] [] pos) fr (C.un1 f fa) := fun P ρ σ H d ρ' Q g er ef q => by
  obtain ⟨z, e1, e2⟩ := un1_some ef
  exact WE.of (pe_callB hc hg.1 hg.2.1 hv pa_wa hg.2.2.2 hg.2.2.1 (star_cons hn) rfl) (da_one hn ha g er e1 fun v H1 o => ⟨Wr P ρ' σ, v, z, d, rfl, o.nx.er.wok, o.dp, e2, fun w H2 r => q _ _ (Out.of o.nx r)⟩)
theorem de_ty1 {x : Str} {p : Pos} {T : String} {f : D → Option D} (hc : CallR X (.type T) (rF X.K f)) (hg : Gl X x ∧ X.mg x = none ∧ (x == ("__debug__" : Str)) = false ∧ x ≠ "__name__") (hv : bootBuiltins x = some (.type T)) (hn : noStar a = true) (ha : DE X pn a false fa) :
    DE X pn (.Call (.Name x p) [a] [] pos) fr (C.un1 f fa) := fun P ρ σ H d ρ' Q g er ef q => by
  obtain ⟨z, e1, e2⟩ := un1_some ef
  exact WE.of (pe_callTy hc hg.1 hg.2.1 hv pa_wa hg.2.2.2 hg.2.2.1 (star_cons hn) rfl) (da_one hn ha g er e1 fun v H1 o => ⟨Wr P ρ' σ, v, z, d, rfl, o.nx.er.wok, o.dp, e2, fun w H2 r => q _ _ (Out.of o.nx r)⟩)
theorem de_blt2 {x : Str} {p : Pos} {id : String} {f : D → D → Option D} (hc : CallR X (.builtin id) (rF2 X.K f)) (hg : Gl X x ∧ X.mg x = none ∧ (x == ("__debug__" : Str)) = false ∧ x ≠ "__name__") (hv : bootBuiltins x = some (.builtin id)) (hn : noStar a = true) (hm : noStar b = true) (ha : DE X pn a false fa) (hb : DE X pn b false fb) :
    DE X pn (.Call (.Name x p) [a, b] [] pos) fr (C.bin f fa fb) := fun P ρ σ H d ρ' Q g er ef q => by
  obtain ⟨y, ρ1, z, e1, e2, e3⟩ := bin_some ef
  exact WE.of (pe_callB hc hg.1 hg.2.1 hv pa_wa hg.2.2.2 hg.2.2.1 (star_cons hn) (nostar_any (by rw [List.all_cons, hm]; rfl))) (da_two hn hm ha hb g er e1 e2 fun v w H1 n h1 h2 => ⟨Wr P ρ' σ, v, w, y, z, d, rfl, n.er.wok, h1, h2, e3, fun u H2 r => q _ _ (Out.of n r)⟩)
theorem de_lenOwn {i : Nat} {p : Pos} (hg : Gl X "len" ∧ X.mg "len" = none ∧ (("len" : Str) == ("__debug__" : Str)) = false ∧ ("len" : Str) ≠ "__name__") (hn : noStar a = true) (h : PE X a (tVar i)) : DE X pn (.Call (.Name "len" p) [a] [] pos) fr (C.lenOwn i) := fun P ρ σ H d ρ' Q g er ef q => by
  unfold C.lenOwn at ef
  split at ef
  · rename_i ds e0
    cases ef
    obtain ⟨a0, vs, h1, h2, h3, h4⟩ := er.own i ds e0
    refine WE.of (pe_callB call_len hg.1 hg.2.1 boot_len (pa_cons h pa_nil (star_cons hn)) hg.2.2.2 hg.2.2.1 (star_cons hn) rfl) ⟨.ref a0, h1, .ref a0, vs.length, rfl, .inl ⟨vs, .inl (.inl h3), rfl⟩, ?_⟩
    rw [DpAll.length h4]
    exact q _ _ (Out.of (Nx.refl er) (ResF.int _))
  · exact de_blt1 fn_len hg boot_len hn (de_varV h) P ρ σ H d ρ' Q g er ef q
theorem de_soSet {x y : Str} {p p2 pos2 : Pos} (hc : X.calm = true) (hu : X.A.units + 200 < cLine) (hg : Gl X x ∧ X.mg x = none ∧ (x == ("__debug__" : Str)) = false ∧ x ≠ "__name__") (hx : x = "sorted") (hg2 : Gl X y ∧ X.mg y = none ∧ (y == ("__debug__" : Str)) = false ∧ y ≠ "__name__") (hy : y = "set") (hn : noStar a = true) (ha : DE X pn a false fa) :
    DE X pn (.Call (.Name x p) [.Call (.Name y p2) [a] [] pos2] [] pos) fr (C.un1 opSortedSet fa) := fun P ρ σ H d ρ' Q g er ef q => by
  subst hx hy
  obtain ⟨z, e1, e2⟩ := un1_some ef
  refine WE.of (pe_callB (CallR.or (cr_soSet hc) (cr_soK hc hu)) hg.1 hg.2.1 (by rfl) (pa_cons (pe_callTy (CallR.or (cr_setL hc) (cr_setK hc (by omega))) hg2.1 hg2.2.1 PyProof.Rows.boot_set pa_wa hg2.2.2.2 hg2.2.2.1 (star_cons hn) rfl) pa_nil rfl) hg.2.2.2 hg.2.2.1 rfl rfl) (da_one hn ha g er e1 fun v H1 o => ?_)
  cases z with
  | list ds =>
    have e2 : (match ints? ds with | some ns => chk (decide (ds.length < 64)) (.list (isort ((once ns).map .int))) | none => chk (setB ds) (.list (isort (onceK ds)))) = some d := e2
    cases hi : ints? ds with
    | none =>
      rw [hi] at e2
      obtain ⟨hb, rfl⟩ := chk_some e2
      obtain ⟨l, xs, rfl, sx, ax⟩ := dp_list o.dp
      obtain ⟨_, _, b3, b4⟩ := setB_ok hb
      refine .inr ⟨l, xs, ds, Wr P ρ' σ, rfl, sx, ax, hb, fun p L es hp dp pm => .inr ?_⟩
      have s1 := Sub.upd (o := SetNO X.prog X.w p L) hp
      have n1 := o.nx.trans (o.nx.er.ext s1)
      exact ⟨p, L, es, onceK ds, Wr P ρ' σ, rfl, upd_same, n1.er.wok, dpAll_sub (hid_sub s1) _ _ dp, pm, b3, b4, fun v H' r => q _ _ (Out.of n1 r)⟩
    | some ns =>
      rw [hi] at e2
      obtain ⟨hb, rfl⟩ := chk_some e2
      have hb := of_decide_eq_true hb
      obtain ⟨l, xs, rfl, sx, ax⟩ := dp_list o.dp
      have ev := ints_vals ax hi
      have hlen : ns.length = ds.length := by
        have := DpAll.length ax
        rw [ev, List.length_map] at this
        exact this
      rw [ev] at sx
      refine .inl ⟨l, ns, rfl, sqL_sub hid_le sx, by omega, fun p c hp hcn => .inl ⟨p, ns, c, rfl, upd_same, by omega, fun ms p2 em hp2 => ?_⟩⟩
      have s1 := Sub.upd (o := SetO X.w p (fun j => decide (j ∈ ns)) c) hp
      have n1 := o.nx.trans (o.nx.er.ext s1)
      rw [em] at q
      have hv : ∀ (H : Hp) (ms : List Int), DpAll X.K H (ms.map V.int) (ms.map .int) := fun H ms => by
        induction ms with
        | nil => exact .nil
        | cons m r ih => exact .cons (.int m) ih
      exact q _ _ (Out.of n1 (ResF.lst n1.er.wok hp2 (hv _ ms)))
  | _ => cases e2
theorem de_sortTab {i : Nat} {x : Str} {p : Pos} (hc : X.calm = true) (hu : X.A.units + 200 < cLine) (hg : Gl X x ∧ X.mg x = none ∧ (x == ("__debug__" : Str)) = false ∧ x ≠ "__name__") (hx : x = "sorted") (hn : noStar a = true) (h : PE X a (tVar i)) :
    DE X pn (.Call (.Name x p) [a] [] pos) fr (C.sortTab i) := fun P ρ σ H d ρ' Q g er ef q => by
  subst hx
  unfold C.sortTab at ef
  split at ef
  · rename_i tab e0
    obtain ⟨e1, rfl⟩ := pair_some (d := d) ef
    obtain ⟨hb, rfl⟩ := chk_some e1
    obtain ⟨a0, t, h1, h2, h3⟩ := tab_of_slot g er e0
    exact WE.of (pe_callB (cr_soT hc hu) hg.1 hg.2.1 (by rfl) (pa_cons h pa_nil (star_cons hn)) hg.2.2.2 hg.2.2.1 (star_cons hn) rfl) ⟨.ref a0, h1, Wr P ρ σ, a0, tab, t, rfl, h2, h3, er.wok, hb, fun v H' r => q _ _ (Out.of (Nx.refl er) r)⟩
  · cases ef
/-! isinstance -/
theorem pe_tyName {x : Str} {t : Ty} {p : Pos} (hg : Gl X x ∧ X.mg x = none ∧ (x == ("__debug__" : Str)) = false ∧ x ≠ "__name__") (h : tyNames.lookup x = some t) : PE X (.Name x p) (tC (.ty (tyS t))) := by
  have hb : bootBuiltins x = some (.type (tyS t)) := by
    unfold tyNames at h
    simp only [List.lookup] at h
    split at h
    · rename_i e; cases h; rw [eq_of_beq e]; rfl
    · split at h
      · rename_i e; cases h; rw [eq_of_beq e]; rfl
      · split at h
        · rename_i e; cases h; rw [eq_of_beq e]; rfl
        · split at h
          · rename_i e; cases h; rw [eq_of_beq e]; rfl
          · split at h
            · rename_i e; cases h; rw [eq_of_beq e]; rfl
            · split at h
              · rename_i e; cases h; rw [eq_of_beq e]; rfl
              · cases h
  exact pe_bltn hg.1 hg.2.1 hb rfl hg.2.2.2 hg.2.2.1
theorem ty1_ok {c : Ct} (k : Cok X c) {t : Ty} (h : tyOf1 c e = some t) : PE X e (tC (.ty (tyS t))) ∧ noStar e = true := by
  unfold tyOf1 at h
  split at h
  · split at h
    · rename_i hb
      exact ⟨pe_tyName (blt_ok k hb) h, rfl⟩
    · cases h
  · cases h
theorem tys_ok {c : Ct} (k : Cok X c) : ∀ {es : List Expr} {ts : List Ty}, mapM1 (tyOf1 c) es = some ts → ∃ t : TA, PA X es t ∧ ∀ σ H Q, Q (ts.map fun t => V.ty (tyS t)) H → t σ H Q
  | [], _, h => by cases h; exact ⟨_, pa_nil, fun _ _ _ q => q⟩
  | e :: r, ts, h => by
    unfold mapM1 at h
    split at h
    · rename_i y ys e1 e2
      cases h
      obtain ⟨h1, h2⟩ := ty1_ok k e1
      obtain ⟨t, h3, h4⟩ := tys_ok k e2
      exact ⟨_, pa_cons h1 h3 (star_cons h2), fun σ H Q q => h4 σ H _ q⟩
    · cases h
theorem un1f_some {g : D → D} {ρ ρ' : Rho} {d : D} (h : C.un1 (fun x => some (g x)) fa ρ = some (d, ρ')) : ∃ x, fa ρ = some (x, ρ') ∧ d = g x := by
  obtain ⟨x, e1, e2⟩ := un1_some h
  cases e2
  exact ⟨x, e1, rfl⟩
theorem de_isi {c : Ct} {p : Pos} {ts : List Ty} {x : Str} (k : Cok X c) (hg : Gl X x ∧ X.mg x = none ∧ (x == ("__debug__" : Str)) = false ∧ x ≠ "__name__") (hx : x = "isinstance") (hn : noStar a = true) (hm : noStar b = true) (ht : tysOf c b = some ts) (ha : DE X pn a false fa) :
    DE X pn (.Call (.Name x p) [a, b] [] pos) fr (C.un1 (fun d => some (.bool (isTys ts d))) fa) := fun P ρ σ H d ρ' Q g er ef q => by
  subst hx
  obtain ⟨z, e1, rfl⟩ := un1f_some ef
  have many : ∀ {es : List Expr} {j : Nat} {tp : Pos}, b = .Tuple es j tp → mapM1 (tyOf1 c) es = some ts → ts.length ≤ line → WE X (.Call (.Name "isinstance" p) [a, b] [] pos) σ H Q := by
    intro es j tp eb hes hl
    subst eb
    obtain ⟨t, h1, h2⟩ := tys_ok k hes
    refine WE.of (pe_callB (fn_isT ts) hg.1 hg.2.1 PyProof.Rows.boot_isinstance (pa_cons pe_we (pa_cons (pe_tup h1) pa_nil rfl) (star_cons hn)) hg.2.2.2 hg.2.2.1 (star_cons hn) rfl) (ha P ρ σ H z ρ' _ g er e1 fun v H1 o => h2 _ _ _ ⟨?_, fun tp2 htp => ?_⟩)
    · rw [List.length_map, ← line_eq]
      exact hl
    · have n1 := o.nx.trans (o.nx.er.ext (Sub.upd (o := .tup (ts.map fun t => V.ty (tyS t))) htp))
      exact ⟨v, z, tp2, rfl, dp_le ((o.nx.er.ext (Sub.upd htp)).keep o.dp), upd_same, q _ _ (Out.of n1 (ResF.bl _))⟩
  unfold tysOf at ht
  split at ht
  · rename_i es j tp
    cases h1 : mapM1 (tyOf1 c) es with
    | none => rw [h1] at ht; cases ht
    | some ts' =>
      rw [h1] at ht
      cases h2 : decide (ts'.length ≤ line) with
      | false =>
        have ht : (match decide (ts'.length ≤ line) with | true => some ts' | false => none) = some ts := ht
        rw [h2] at ht; cases ht
      | true =>
        have ht : (match decide (ts'.length ≤ line) with | true => some ts' | false => none) = some ts := ht
        rw [h2] at ht
        cases ht
        exact many rfl h1 (of_decide_eq_true h2)
  · obtain ⟨t, h1, rfl⟩ := Option.map_eq_some_iff.mp ht
    obtain ⟨h2, h3⟩ := ty1_ok k h1
    have ei : isTys [t] z = isTy t z := by
      show (isTy t z || false) = isTy t z
      rw [Bool.or_false]
    rw [ei] at q
    exact WE.of (pe_callB (fn_is1 t) hg.1 hg.2.1 PyProof.Rows.boot_isinstance (pa_cons pe_we (pa_cons h2 pa_nil (star_cons h3)) (star_cons hn)) hg.2.2.2 hg.2.2.1 (star_cons hn) (nostar_any (by rw [List.all_cons, h3]; rfl))) (ha P ρ σ H z ρ' _ g er e1 fun v H1 o => ⟨v, z, rfl, dp_le o.dp, q _ _ (Out.of o.nx (ResF.bl _))⟩)
end
end Dl

set_option maxRecDepth 100000
set_option maxHeartbeats 2000000
/-! Methods, what is walked, targets, comprehensions. -/
namespace Dl
open PySem PySem.Spec L2
open PyProof.Rows hiding St
section
variable {X : Cx} {pn : List Nat} {e a b o : Expr} {es : List Expr} {fr : Bool} {f fa fb fc : EV} {pos cp ap : Pos}

theorem met_ok {env : Env} {m : Str} {w : Sem Value} (h : metB o ap cp = true) : attributeBase o m env w = w ∧ (ap.endLine == cp.line) = true := by
  unfold metB at h
  obtain ⟨h1, h2⟩ := and_tt h
  refine ⟨?_, h1⟩
  cases o <;> first | rfl | cases h2
theorem few_ok {env : Env} (hn : noStar a = true) : ((backTo cp (starEach [a] env)).all (fun x => !x.1) && (backToKw cp (keywordEach [] env)).all (fun x => x.1.isSome)
      && decide (([a] : List Expr).length + ([] : List Keyword).length + (if ([] : List Keyword).isEmpty then 0 else 1) < 30)) = true := by
  rw [star_cons hn]
  rfl
theorem pe_m1 {T id : String} {m : Str} {r : V → List V → Hp → VK → Prop} {to : TE} {t : TA} (pa : PlainAttrs T) (slot : Slot T m id) (hty : typeOf (.builtin id) = pure (.type "method_descriptor")) (hm : MtR X id r) (ho : PE X o to) (ha : PA X [a] t) (h : metB o ap cp = true) (hn : noStar a = true) :
    PE X (.Call (.Attribute o m ap) [a] [] cp) (tBM X.K T r to t) :=
  pe_bm pa slot hty hm ho ha (met_ok (m := m) (env := X.env) (w := eval o X.env) h).1 (few_ok hn) (met_ok (m := m) (env := X.env) (w := eval o X.env) h).2 (star_cons hn) rfl
theorem de_count (hu : X.A.units + 200 < cLine) (h : metB o ap cp = true) (hn : noStar a = true) (ho : DE X pn o false fa) (ha : DE X pn a false fb) : DE X pn (.Call (.Attribute o "count" ap) [a] [] cp) fr (C.bin opCount fa fb) := fun P ρ σ H d ρ' Q g er ef q => by
  obtain ⟨x, ρ1, y, e1, e2, e3⟩ := bin_some ef
  cases x with
  | str z =>
    refine WE.of (pe_m1 PySem.F.plainAttrs_str PySem.F.slot_str_count PySem.F.type_str_count mt_countS pe_we pa_wa h hn) (ho P ρ σ H _ ρ1 _ g er e1 fun v H1 o1 => ?_)
    have ev := dp_str o1.dp
    subst ev
    exact ⟨rfl, da_one hn ha g o1.nx.er e2 fun w H2 o2 => ⟨⟨z, rfl⟩, Wr P ρ' σ, w, .str z, y, d, rfl, o2.nx.er.wok, .str z, o2.dp, e3, fun u H3 r => q _ _ (Out.of (o1.nx.trans o2.nx) r)⟩⟩
  | list ds =>
    refine WE.of (pe_m1 PySem.F.plainAttrs_list PySem.F.slot_list_count PySem.F.type_list_count (mt_countL hu) pe_we pa_wa h hn) (ho P ρ σ H _ ρ1 _ g er e1 fun v H1 o1 => ?_)
    obtain ⟨p, xs, rfl, sx, ax⟩ := dp_list o1.dp
    refine ⟨.inl ⟨rfl, xs, sqL_sub hid_le sx⟩, da_one hn ha g o1.nx.er e2 fun w H2 o2 => ?_⟩
    have dp2 := o2.nx.keep o1.dp
    exact ⟨⟨p, rfl⟩, ⟨ds, dp_le dp2⟩, Wr P ρ' σ, w, .list ds, y, d, rfl, o2.nx.er.wok, dp2, o2.dp, e3, fun u H3 r => q _ _ (Out.of (o1.nx.trans o2.nx) r)⟩
  | _ => cases e3
theorem de_join (h : metB o ap cp = true) (hn : noStar a = true) (ho : DE X pn o false fa) (ha : DE X pn a false fb) : DE X pn (.Call (.Attribute o "join" ap) [a] [] cp) fr (C.bin opJoin fa fb) := fun P ρ σ H d ρ' Q g er ef q => by
  obtain ⟨x, ρ1, y, e1, e2, e3⟩ := bin_some ef
  cases x with
  | str z =>
    refine WE.of (pe_m1 PySem.F.plainAttrs_str PySem.F.slot_str_join PySem.F.type_str_join mt_joinD pe_we pa_wa h hn) (ho P ρ σ H _ ρ1 _ g er e1 fun v H1 o1 => ?_)
    have ev := dp_str o1.dp
    subst ev
    exact ⟨rfl, da_one hn ha g o1.nx.er e2 fun w H2 o2 => ⟨⟨z, rfl⟩, Wr P ρ' σ, w, .str z, y, d, rfl, o2.nx.er.wok, .str z, o2.dp, e3, fun u H3 r => q _ _ (Out.of (o1.nx.trans o2.nx) r)⟩⟩
  | _ => cases e3
theorem setOwn_run {K : PySem.W.Frag} {P : Pm} {ρ : Rho} {σ : SSt} {H : Hp} {i : Nat} {ds ds' : List D} {a0 : Addr} {vs' : List V} (er : ER K P ρ σ H) (h : ρ[i]? = some (.own ds)) (ha : σ[i]? = some (some (V.ref a0))) (r : DpAll K (hid (Wr P ρ σ) H) vs' ds') :
    Nx K P ρ σ H (ρ.set i (.own ds')) σ (upd H a0 (.lst vs')) := by
  have s : ∀ p o, H p = some o → p ≠ a0 → upd H a0 (.lst vs') p = some o := fun p o hp hne => by rw [upd_ne hne]; exact hp
  exact er.setOwnAt h ha s upd_same (dpAll_sub (hid_but (.inr ⟨i, _, h, True.intro, ha⟩) s) _ _ r)
theorem de_popOwn {i : Nat} (h : metB o ap cp = true) (hn : noStar a = true) (ho : PE X o (tVar i)) (ha : DE X pn a false fb) : DE X pn (.Call (.Attribute o "pop" ap) [a] [] cp) false (C.popOwn i fb) := fun P ρ σ H d ρ' Q g er ef q => by
  unfold C.popOwn at ef
  split at ef
  · rename_i ds0 e0
    split at ef
    · rename_i k ρ1 e1
      split at ef
      · rename_i ds e2
        split at ef
        · rename_i j e3 e4
          split at ef
          · rename_i x e5
            cases ef
            obtain ⟨a0, vs0, h1, _, h3, _⟩ := er.own i ds0 e0
            refine WE.of (pe_m1 PySem.F.plainAttrs_list PySem.F.slot_list_pop PySem.F.type_list_pop mt_popAt ho pa_wa h hn) ⟨.ref a0, h1, .inl ⟨rfl, vs0, .inl (.inl h3)⟩, da_one hn ha g er e1 fun u H1 o1 => ?_⟩
            obtain ⟨a1, vs, g1, g2, g3, g4⟩ := o1.nx.er.own i ds e2
            rw [h1] at g1; cases g1
            obtain ⟨z, hz, rz⟩ := DpAll.get g4 e5
            obtain ⟨k1, k2⟩ := in62_ok e3
            have n1 := setOwn_run o1.nx.er e2 h1 (DpAll.eraseIdx j g4)
            obtain ⟨s1, _⟩ := ixN_seq e4
            exact ⟨a0, vs, k, j, z, rfl, by rw [dp_int o1.dp], g3, by omega, by omega, by rw [DpAll.length g4]; exact s1, hz, q _ _ (Out.same (o1.nx.trans n1) (n1.keep rz))⟩
          · cases ef
        · cases ef
      · cases ef
    · cases ef
  · cases ef

/-! ### what is walked -/
def Wk (K : PySem.W.Frag) (J : It) (V0 : Hp) (ds : List D) : Prop := ∀ (W : Addr → Prop) (H : Hp), Wok W H → Sub V0 (hid W H) → ∀ i : Nat,
  (∀ d, ds[i]? = some d → J.go i H ∧ ∀ x H', J.yld i H x H' → Sub H H' ∧ Dp K (hid W H') x d) ∧ (ds[i]? = none → J.stop i H)
section
variable {K : PySem.W.Frag} {V0 : Hp} {ds es : List D}
theorem Wk.sub {J : It} {V1 : Hp} (s : Sub V0 V1) (h : Wk K J V0 ds) : Wk K J V1 ds := fun W H w s1 i => h W H w (s.trans s1) i
theorem wk_list {p : Addr} (h : Dp K V0 (.ref p) (.list ds)) : Wk K (Itl K p) V0 ds := fun W H w s i => by
  obtain ⟨p', xs, e, sx, ax⟩ := dp_list h
  cases e
  have hs : SqL K H p xs := sqL_sub hid_le (sqL_sub s sx)
  refine ⟨fun d hd => ?_, fun hd => ⟨xs, hs, ?_⟩⟩
  · obtain ⟨v, hv, rv⟩ := DpAll.get ax hd
    refine ⟨⟨xs, v, hs, hv⟩, fun x H' ⟨e1, e2⟩ => ?_⟩
    subst e1
    have := e2 xs hs
    rw [hv] at this
    cases this
    exact ⟨Sub.refl, dp_sub s _ _ rv⟩
  · rw [DpAll.length ax]
    exact List.getElem?_eq_none_iff.mp hd
theorem wk_tup {p : Addr} (h : Dp K V0 (.ref p) (.tuple ds)) : Wk K (Itt K p) V0 ds := fun W H w s i => by
  obtain ⟨p', xs, e, sx, ax⟩ := dp_tup h
  cases e
  have hs : SqT K H p xs := sqT_sub hid_le (sqT_sub s sx)
  refine ⟨fun d hd => ?_, fun hd => ⟨xs, hs, ?_⟩⟩
  · obtain ⟨v, hv, rv⟩ := DpAll.get ax hd
    refine ⟨⟨xs, v, hs, hv⟩, fun x H' ⟨e1, e2⟩ => ?_⟩
    subst e1
    have := e2 xs hs
    rw [hv] at this
    cases this
    exact ⟨Sub.refl, dp_sub s _ _ rv⟩
  · rw [DpAll.length ax]
    exact List.getElem?_eq_none_iff.mp hd
theorem wk_range {lo : Int} {n : Nat} : Wk K (Itr lo n) V0 (C.upTo lo n) := fun W H w s i => by
  have hlen : (C.upTo lo n).length = n := by unfold C.upTo; simp
  have hget : ∀ h : i < n, (C.upTo lo n)[i]? = some (.int (lo + i)) := fun h => by
    unfold C.upTo
    rw [List.getElem?_map, List.getElem?_range h]
    rfl
  refine ⟨fun d hd => ?_, fun hd => ?_⟩
  · have hi : i < n := by rw [← hlen]; exact (List.getElem?_eq_some_iff.mp hd).1
    rw [hget hi] at hd
    cases hd
    refine ⟨hi, fun x H' ⟨e1, e2⟩ => ?_⟩
    subst e1 e2
    exact ⟨Sub.refl, .int _⟩
  · have := List.getElem?_eq_none_iff.mp hd
    rw [hlen] at this
    exact this
theorem wk_str {z : Str} : Wk K (Its z) V0 (chars z) := fun W H w s i => by
  have hget : (chars z)[i]? = (z.cps[i]?).map fun c => PyData.str ⟨#[c]⟩ := by
    unfold chars
    rw [List.getElem?_map, Array.getElem?_toList]
  refine ⟨fun d hd => ?_, fun hd => ?_⟩
  · rw [hget] at hd
    obtain ⟨c, hc, rfl⟩ := Option.map_eq_some_iff.mp hd
    refine ⟨(Array.getElem?_eq_some_iff.mp hc).1, fun x H' ⟨e1, c', e2, e3⟩ => ?_⟩
    subst e1 e3
    rw [hc] at e2
    cases e2
    exact ⟨Sub.refl, .str _⟩
  · rw [hget] at hd
    have : z.cps[i]? = none := by
      cases h : z.cps[i]? with
      | none => rfl
      | some c => rw [h] at hd; cases hd
    exact Array.getElem?_eq_none_iff.mp this
theorem number_get : ∀ (ds : List D) (k i : Nat), (C.number k ds)[i]? = (ds[i]?).map fun x => .tuple [.int ((k + i : Nat) : Int), x]
  | [], _, _ => by simp [C.number]
  | d :: r, k, 0 => by simp [C.number]
  | d :: r, k, i + 1 => by
    show (C.number (k + 1) r)[i]? = _
    rw [number_get r (k + 1) i]
    have : k + 1 + i = k + (i + 1) := by omega
    rw [this]
    simp
theorem new_tup {W : Addr → Prop} {H : Hp} {T : Addr} {xs : List V} {ds : List D} (w : Wok W H) (hT : H T = none) (r : DpAll K (hid W H) xs ds) : Sub H (upd H T (.tup xs)) ∧ Dp K (hid W (upd H T (.tup xs))) (.ref T) (.tuple ds) :=
  have q : ResF K W H (upd H T (.tup xs)) (.ref T) (.tuple ds) := ResF.tup w hT r
  ⟨q.sub, q.dp⟩
theorem wk_enumL {p : Addr} (h : Dp K V0 (.ref p) (.list ds)) : Wk K (Ite K p) V0 (C.number 0 ds) := fun W H w s i => by
  obtain ⟨p', xs, e, sx, ax⟩ := dp_list h
  cases e
  have hs : SqL K H p xs := sqL_sub hid_le (sqL_sub s sx)
  rw [number_get]
  refine ⟨fun d hd => ?_, fun hd => ⟨xs, hs, ?_⟩⟩
  · obtain ⟨x0, hx0, rfl⟩ := Option.map_eq_some_iff.mp hd
    obtain ⟨v, hv, rv⟩ := DpAll.get ax hx0
    refine ⟨⟨xs, v, hs, hv⟩, fun x H' ⟨T, y, e1, e2, e3, e4⟩ => ?_⟩
    subst e1 e3
    have := e4 xs hs
    rw [hv] at this
    cases this
    rw [Nat.zero_add]
    exact new_tup w e2 (.cons (.int _) (.cons (dp_sub s _ _ rv) .nil))
  · rw [DpAll.length ax]
    cases h : ds[i]? with
    | none => exact List.getElem?_eq_none_iff.mp h
    | some c => rw [h] at hd; cases hd
theorem wk_enumT {p : Addr} (h : Dp K V0 (.ref p) (.tuple ds)) : Wk K (IteT K p) V0 (C.number 0 ds) := fun W H w s i => by
  obtain ⟨p', xs, e, sx, ax⟩ := dp_tup h
  cases e
  have hs : SqT K H p xs := sqT_sub hid_le (sqT_sub s sx)
  rw [number_get]
  refine ⟨fun d hd => ?_, fun hd => ⟨xs, hs, ?_⟩⟩
  · obtain ⟨x0, hx0, rfl⟩ := Option.map_eq_some_iff.mp hd
    obtain ⟨v, hv, rv⟩ := DpAll.get ax hx0
    refine ⟨⟨xs, v, hs, hv⟩, fun x H' ⟨T, y, e1, e2, e3, e4⟩ => ?_⟩
    subst e1 e3
    have := e4 xs hs
    rw [hv] at this
    cases this
    rw [Nat.zero_add]
    exact new_tup w e2 (.cons (.int _) (.cons (dp_sub s _ _ rv) .nil))
  · rw [DpAll.length ax]
    cases h : ds[i]? with
    | none => exact List.getElem?_eq_none_iff.mp h
    | some c => rw [h] at hd; cases hd
theorem zip_get : ∀ (xs ys : List D) (i : Nat), (C.zipD xs ys)[i]? = match xs[i]?, ys[i]? with | some x, some y => some (.tuple [x, y]) | _, _ => none
  | [], _, _ => by simp [C.zipD]
  | _ :: _, [], i => by cases i <;> simp [C.zipD]
  | x :: xs, y :: ys, 0 => by simp [C.zipD]
  | x :: xs, y :: ys, i + 1 => by
    show (C.zipD xs ys)[i]? = _
    rw [zip_get xs ys i]
    simp
theorem zip_cases {xs ys : List D} {i : Nat} {d : D} (h : (C.zipD xs ys)[i]? = some d) : ∃ x y, xs[i]? = some x ∧ ys[i]? = some y ∧ d = .tuple [x, y] := by
  rw [zip_get] at h
  split at h
  · rename_i x y e1 e2
    cases h
    exact ⟨x, y, e1, e2, rfl⟩
  · cases h
theorem zip_none {xs ys : List D} {i : Nat} (h : (C.zipD xs ys)[i]? = none) : xs.length ≤ i ∨ ys.length ≤ i := by
  rw [zip_get] at h
  cases e1 : xs[i]? with
  | none => exact .inl (List.getElem?_eq_none_iff.mp e1)
  | some x =>
    cases e2 : ys[i]? with
    | none => exact .inr (List.getElem?_eq_none_iff.mp e2)
    | some y => rw [e1, e2] at h; cases h
theorem wk_zipL {p p2 : Addr} (h : Dp K V0 (.ref p) (.list ds)) (h2 : Dp K V0 (.ref p2) (.list es)) : Wk K (Itz K p p2) V0 (C.zipD ds es) := fun W H w s i => by
  obtain ⟨p', xs, e, sx, ax⟩ := dp_list h
  cases e
  obtain ⟨p', ys, e, sy, ay⟩ := dp_list h2
  cases e
  have hs : SqL K H p xs := sqL_sub hid_le (sqL_sub s sx)
  have hs2 : SqL K H p2 ys := sqL_sub hid_le (sqL_sub s sy)
  refine ⟨fun d hd => ?_, fun hd => ⟨xs, ys, hs, hs2, ?_⟩⟩
  · obtain ⟨x0, y0, hx0, hy0, rfl⟩ := zip_cases hd
    obtain ⟨v, hv, rv⟩ := DpAll.get ax hx0
    obtain ⟨u, hu, ru⟩ := DpAll.get ay hy0
    refine ⟨⟨xs, ys, v, u, hs, hs2, hv, hu⟩, fun x H' ⟨T, y, y', e1, e2, e3, e4, e5⟩ => ?_⟩
    subst e1 e3
    have h1 := e4 xs hs
    rw [hv] at h1
    cases h1
    have h1 := e5 ys hs2
    rw [hu] at h1
    cases h1
    exact new_tup w e2 (.cons (dp_sub s _ _ rv) (.cons (dp_sub s _ _ ru) .nil))
  · rw [DpAll.length ax, DpAll.length ay]
    exact zip_none hd
theorem wk_zipT {p p2 : Addr} (h : Dp K V0 (.ref p) (.tuple ds)) (h2 : Dp K V0 (.ref p2) (.tuple es)) : Wk K (RZ.ItzT K p p2) V0 (C.zipD ds es) := fun W H w s i => by
  obtain ⟨p', xs, e, sx, ax⟩ := dp_tup h
  cases e
  obtain ⟨p', ys, e, sy, ay⟩ := dp_tup h2
  cases e
  have hs : SqT K H p xs := sqT_sub hid_le (sqT_sub s sx)
  have hs2 : SqT K H p2 ys := sqT_sub hid_le (sqT_sub s sy)
  refine ⟨fun d hd => ?_, fun hd => ⟨xs, ys, hs, hs2, ?_⟩⟩
  · obtain ⟨x0, y0, hx0, hy0, rfl⟩ := zip_cases hd
    obtain ⟨v, hv, rv⟩ := DpAll.get ax hx0
    obtain ⟨u, hu, ru⟩ := DpAll.get ay hy0
    refine ⟨⟨xs, ys, v, u, hs, hs2, hv, hu⟩, fun x H' ⟨T, y, y', e1, e2, e3, e4, e5⟩ => ?_⟩
    subst e1 e3
    have h1 := e4 xs hs
    rw [hv] at h1
    cases h1
    have h1 := e5 ys hs2
    rw [hu] at h1
    cases h1
    exact new_tup w e2 (.cons (dp_sub s _ _ rv) (.cons (dp_sub s _ _ ru) .nil))
  · rw [DpAll.length ax, DpAll.length ay]
    exact zip_none hd
end
def DI (X : Cx) (pn : List Nat) (tg e : Expr) (f : AV) : Prop := ∀ (P : Pm) (ρ : Rho) (σ : SSt) (H : Hp) (ds : List D) (ρ' : Rho) (R : It → Hp → Prop), Good (tbX X) P pn → ER X.K P ρ σ H → f ρ = some (ds, ρ') →
  (∀ J H', Nx X.K P ρ σ H ρ' σ H' → Wk X.K J (hid (Wr P ρ' σ) H') ds → R J H') → WI X tg e σ H R
section
variable {tg : Expr}
theorem di_fail : DI X pn tg e C.fail := fun P ρ σ H ds ρ' R g er ef q => by cases ef
theorem iter_some {ρ ρ' : Rho} {ds : List D} (h : C.iter fa ρ = some (ds, ρ')) : ∃ x, fa ρ = some (x, ρ') ∧ C.walk x = some ds := by
  unfold C.iter at h
  split at h
  · rename_i x ρ1 e1
    obtain ⟨p, e2, e3⟩ := Option.map_eq_some_iff.mp h
    cases e3
    exact ⟨x, e1, e2⟩
  · cases h
theorem di_iter (ha : DE X pn e false fa) : DI X pn tg e (C.iter fa) := fun P ρ σ H ds ρ' R g er ef q => by
  obtain ⟨x, e1, e2⟩ := iter_some ef
  cases x with
  | list xs =>
    cases e2
    refine WI.of (pi_list pe_we) (ha P ρ σ H _ ρ' _ g er e1 fun v H1 o => ?_)
    obtain ⟨p, us, rfl, sx, ax⟩ := dp_list o.dp
    exact ⟨p, rfl, ⟨us, sqL_sub hid_le sx⟩, q _ _ o.nx (wk_list o.dp)⟩
  | tuple xs =>
    cases e2
    refine WI.of (pi_tup pe_we) (ha P ρ σ H _ ρ' _ g er e1 fun v H1 o => ?_)
    obtain ⟨p, us, rfl, sx, ax⟩ := dp_tup o.dp
    exact ⟨p, rfl, ⟨us, sqT_sub hid_le sx⟩, q _ _ o.nx (wk_tup o.dp)⟩
  | str z =>
    cases e2
    exact WI.of (pi_str pe_we) (ha P ρ σ H _ ρ' _ g er e1 fun v H1 o => ⟨z, dp_str o.dp, q _ _ o.nx wk_str⟩)
  | _ => cases e2
theorem di_range1 {x : Str} {p : Pos} (hg : Gl X x ∧ X.mg x = none ∧ (x == ("__debug__" : Str)) = false ∧ x ≠ "__name__") (hx : x = "range") (hn : noStar a = true) (ha : DE X pn a false fa) : DI X pn tg (.Call (.Name x p) [a] [] pos) (C.range1 fa) := fun P ρ σ H ds ρ' R g er ef q => by
  subst hx
  unfold C.range1 at ef
  split at ef
  · rename_i j ρ1 e1
    split at ef
    · rename_i e2
      cases ef
      obtain ⟨k1, k2⟩ := in62_ok e2
      exact WI.of (pi_range1 hg.1 hg.2.1 pa_wa (star_cons hn)) (da_one hn ha g er e1 fun v H1 o => ⟨j, by rw [dp_int o.dp], k1, k2, q _ _ o.nx wk_range⟩)
    · cases ef
  · cases ef
theorem di_range2 {x : Str} {p : Pos} (hg : Gl X x ∧ X.mg x = none ∧ (x == ("__debug__" : Str)) = false ∧ x ≠ "__name__") (hx : x = "range") (hn : noStar a = true) (hm : noStar b = true) (ha : DE X pn a false fa) (hb : DE X pn b false fb) : DI X pn tg (.Call (.Name x p) [a, b] [] pos) (C.range2 fa fb) := fun P ρ σ H ds ρ' R g er ef q => by
  subst hx
  unfold C.range2 at ef
  split at ef
  · rename_i i ρ1 e1
    split at ef
    · rename_i j ρ2 e2
      split at ef
      · rename_i e3
        cases ef
        obtain ⟨e3, e4⟩ := and_tt e3
        obtain ⟨k1, k2⟩ := in62_ok e3
        obtain ⟨k3, k4⟩ := in62_ok e4
        exact WI.of (pi_range2 hg.1 hg.2.1 pa_wa (by rw [star_cons hn, star_cons hm]; rfl) (star_cons hm)) (da_two hn hm ha hb g er e1 e2 fun v w H1 n h1 h2 => ⟨i, j, by rw [dp_int h1, dp_int h2], ⟨k1, k2, k3, k4⟩, q _ _ n wk_range⟩)
      · cases ef
    · cases ef
  · cases ef
theorem di_enum {x : Str} {p tp : Pos} {ts : List Expr} {j : Nat} (hg : Gl X x ∧ X.mg x = none ∧ (x == ("__debug__" : Str)) = false ∧ x ≠ "__name__") (hx : x = "enumerate") (hn : noStar a = true) (ha : DE X pn a false fa) : DI X pn (.Tuple ts j tp) (.Call (.Name x p) [a] [] pos) (C.enum fa) := fun P ρ σ H ds ρ' R g er ef q => by
  subst hx
  unfold C.enum at ef
  split at ef
  · rename_i x ρ1 e1
    obtain ⟨ds0, e2, e3⟩ := Option.map_eq_some_iff.mp ef
    cases e3
    cases x with
    | list xs =>
      cases e2
      refine WI.of (pi_enum hg.1 hg.2.1 pa_wa (star_cons hn)) (da_one hn ha g er e1 fun v H1 o => ?_)
      obtain ⟨p, us, rfl, sx, ax⟩ := dp_list o.dp
      exact ⟨p, us, rfl, sqL_sub hid_le sx, q _ _ o.nx (wk_enumL o.dp)⟩
    | tuple xs =>
      cases e2
      refine WI.of (pi_enumT hg.1 hg.2.1 pa_wa (star_cons hn)) (da_one hn ha g er e1 fun v H1 o => ?_)
      obtain ⟨p, us, rfl, sx, ax⟩ := dp_tup o.dp
      exact ⟨p, us, rfl, sqT_sub hid_le sx, q _ _ o.nx (wk_enumT o.dp)⟩
    | _ => cases e2
  · cases ef
theorem di_zip {x : Str} {p tp : Pos} {ts : List Expr} {j : Nat} (hg : Gl X x ∧ X.mg x = none ∧ (x == ("__debug__" : Str)) = false ∧ x ≠ "__name__") (hx : x = "zip") (hn : noStar a = true) (hm : noStar b = true) (ha : DE X pn a false fa) (hb : DE X pn b false fb) : DI X pn (.Tuple ts j tp) (.Call (.Name x p) [a, b] [] pos) (C.zip2 fa fb) := fun P ρ σ H ds ρ' R g er ef q => by
  subst hx
  unfold C.zip2 at ef
  split at ef
  · rename_i x ρ1 e1
    split at ef
    · rename_i y ρ2 e2
      split at ef
      · cases ef
        refine WI.of (RZ.pi_zipA hg.1 hg.2.1 pa_wa (star_cons hn) (nostar_any (by rw [List.all_cons, hm]; rfl))) (da_two hn hm ha hb g er e1 e2 fun v w H1 n h1 h2 => ?_)
        obtain ⟨p, us, rfl, sx, ax⟩ := dp_list h1
        obtain ⟨p2, us2, rfl, sx2, ax2⟩ := dp_list h2
        exact ⟨p, p2, us, us2, rfl, .inl ⟨sqL_sub hid_le sx, sqL_sub hid_le sx2, q _ _ n (wk_zipL h1 h2)⟩⟩
      · cases ef
        refine WI.of (RZ.pi_zipA hg.1 hg.2.1 pa_wa (star_cons hn) (nostar_any (by rw [List.all_cons, hm]; rfl))) (da_two hn hm ha hb g er e1 e2 fun v w H1 n h1 h2 => ?_)
        obtain ⟨p, us, rfl, sx, ax⟩ := dp_tup h1
        obtain ⟨p2, us2, rfl, sx2, ax2⟩ := dp_tup h2
        exact ⟨p, p2, us, us2, rfl, .inr ⟨sqT_sub hid_le sx, sqT_sub hid_le sx2, q _ _ n (wk_zipT h1 h2)⟩⟩
      · cases ef
    · cases ef
  · cases ef
end

/-! ### targets -/
def Only (vs : Option (List Nat)) (σ σ' : SSt) : Prop := ∀ l, vs = some l → σ'.length = σ.length ∧ ∀ i, i ∉ l → σ'[i]? = σ[i]?
theorem Only.refl {vs : Option (List Nat)} {σ : SSt} : Only vs σ σ := fun _ _ => ⟨rfl, fun _ _ => rfl⟩
theorem Only.trans {vs : Option (List Nat)} {σ σ1 σ2 : SSt} (h : Only vs σ σ1) (g : Only vs σ1 σ2) : Only vs σ σ2 := fun l e => ⟨(g l e).1.trans (h l e).1, fun i hi => ((g l e).2 i hi).trans ((h l e).2 i hi)⟩
def DG (X : Cx) (pn : List Nat) (vs : Option (List Nat)) (tg : Expr) (gv : GV) : Prop := ∀ (P : Pm) (ρ : Rho) (σ : SSt) (H : Hp) (v : V) (d : D) (ρ' : Rho) (Q : SSt → Hp → Prop), Good (tbX X) P pn → ER X.K P ρ σ H → Dp X.K (hid (Wr P ρ σ) H) v d → gv d ρ = some ρ' →
  (∀ σ', Nx X.K P ρ σ H ρ' σ' H → Only vs σ σ' → Q σ' H) → WG X tg v σ H Q
def DGs (X : Cx) (pn : List Nat) (vs : Option (List Nat)) (ts : List Expr) (gv : List D → Rho → Option Rho) : Prop := ∀ (P : Pm) (ρ : Rho) (σ : SSt) (H : Hp) (us : List V) (ds : List D) (ρ' : Rho) (Q : SSt → Hp → Prop), Good (tbX X) P pn → ER X.K P ρ σ H → DpAll X.K (hid (Wr P ρ σ) H) us ds → gv ds ρ = some ρ' →
  (∀ σ', Nx X.K P ρ σ H ρ' σ' H → Only vs σ σ' → Q σ' H) → WGs X ts us σ H Q
section
variable {vs : Option (List Nat)} {tg : Expr} {ts : List Expr}
theorem dg_fail : DG X pn vs tg (fun _ _ => none) := fun P ρ σ H v d ρ' Q g er r ef q => by cases ef
theorem inVs_ok {i : Nat} (h : inVs vs i = true) : ∀ l, vs = some l → i ∈ l := fun l e => by
  subst e
  exact List.contains_iff_mem.mp h
theorem store_ok' {c : Ct} (k : Cok X c) {i : Nat} (h : storeSlot c tg = some i) : ∃ x p, tg = .Name x p ∧ X.N[i]? = some x ∧ Loc X.env.scope x ∧ (X.fn x = true ∨ X.env.scope.names.lookup x = some .local) ∧ c.pn.contains i = false := by
  unfold storeSlot at h
  split at h
  · rename_i x p
    split at h
    · rename_i h1 h2
      obtain ⟨h1, h3⟩ := and_tt h1
      split at h
      · rename_i j hj
        split at h
        · rename_i hp
          cases h
          refine ⟨x, p, rfl, by rw [k.N]; exact slot_some hj, loc_ok k h1, ?_, hp⟩
          rcases Bool.or_eq_true_iff.mp h3 with h3 | h3
          · exact .inl (by rw [k.fn]; exact h3)
          · exact .inr (locL_ok k h3)
        · cases h
      · cases h
    · cases h
  · cases h
theorem dg_name {c : Ct} (k : Cok X c) {i : Nat} (h : storeSlot c tg = some i) (hv : inVs vs i = true) (hpn : c.pn = pn) : DG X pn vs tg (C.tgName i) := fun P ρ σ H v d ρ' Q g er r ef q => by
  obtain ⟨x, p, rfl, h1, h2, h3, h4⟩ := store_ok' k h
  rw [hpn] at h4
  unfold C.tgName at ef
  split at ef
  · rename_i hl
    cases ef
    have hl := of_decide_eq_true hl
    refine WG.of (pg_name (by rw [k.N]; exact k.nd) h1 h2 h3) (q _ (er.setVal hl (g.free h4) r) fun l e => ⟨by simp, fun j hj => ?_⟩)
    exact get_set_ne fun z => hj (z ▸ inVs_ok hv l e)
  · cases ef
theorem dgs_nil : DGs X pn vs [] C.tgNil := fun P ρ σ H us ds ρ' Q g er r ef q => by
  cases ds with
  | nil =>
    cases ef
    cases r
    exact WGs.of pgs_nil ⟨rfl, q σ (Nx.refl er) Only.refl⟩
  | cons => cases ef
theorem asg_cons {env : Env} (h : noStar e = true) : assignEach (e :: es) env = (false, assign e env) :: assignEach es env := by
  cases e <;> first | rfl | cases h
theorem dgs_cons {gt : GV} {gr : List D → Rho → Option Rho} (hn : noStar tg = true) (h1 : DG X pn vs tg gt) (h2 : DGs X pn vs ts gr) : DGs X pn vs (tg :: ts) (C.tgCons gt gr) := fun P ρ σ H us ds ρ' Q g er r ef q => by
  cases ds with
  | nil => cases ef
  | cons d ds =>
    cases r with
    | cons r1 r2 =>
      have e2 : (match gt d ρ with | some ρ1 => gr ds ρ1 | none => none) = some ρ' := ef
      cases e1 : gt d ρ with
      | none => rw [e1] at e2; cases e2
      | some ρ1 =>
      rw [e1] at e2
      exact WGs.of (pgs_cons pg_wg pgs_wgs (by rw [asg_cons hn]; rfl)) ⟨_, _, rfl, h1 P ρ σ H _ d ρ1 _ g er r1 e1 fun σ1 n1 o1 => h2 P ρ1 σ1 H _ ds ρ' _ g n1.er (n1.keepAll r2) e2 fun σ2 n2 o2 => q σ2 (n1.trans n2) (o1.trans o2)⟩
theorem asg_len {env : Env} : ∀ {ts : List Expr}, ts.all noStar = true → (assignEach ts env).length = ts.length ∧ (assignEach ts env).findIdx? (·.1) = none
  | [], _ => ⟨rfl, rfl⟩
  | t :: r, h => by
    obtain ⟨h1, h2⟩ := and_tt (show (noStar t && r.all noStar) = true from h)
    obtain ⟨h3, h4⟩ := asg_len (env := env) h2
    rw [asg_cons h1]
    refine ⟨by rw [List.length_cons, h3]; rfl, ?_⟩
    rw [List.findIdx?_cons, h4]
    rfl
theorem dgs_len {gs : List GV} : ∀ {ds : List D} {ρ ρ' : Rho}, tgsL gs ds ρ = some ρ' → ds.length = gs.length := by
  induction gs with
  | nil =>
    intro ds ρ ρ' h
    cases ds with
    | nil => rfl
    | cons => cases h
  | cons g gs ih =>
    intro ds ρ ρ' h
    cases ds with
    | nil => cases h
    | cons d ds =>
      have e2 : (match g d ρ with | some ρ1 => tgsL gs ds ρ1 | none => none) = some ρ' := h
      cases e1 : g d ρ with
      | none => rw [e1] at e2; cases e2
      | some ρ1 =>
        rw [e1] at e2
        rw [List.length_cons, List.length_cons, ih e2]
theorem dgs_all {gv : Expr → GV} : ∀ {ts : List Expr}, ts.all noStar = true → (∀ t ∈ ts, DG X pn vs t (gv t)) → DGs X pn vs ts (tgsL (ts.map gv))
  | [], _, _ => dgs_nil
  | t :: r, h, f => by
    obtain ⟨h1, h2⟩ := and_tt (show (noStar t && r.all noStar) = true from h)
    exact dgs_cons h1 (f t List.mem_cons_self) (dgs_all h2 fun x hx => f x (List.mem_cons_of_mem _ hx))
theorem dg_tup {gv : Expr → GV} {j : Nat} (hc : X.calm = true) (hn : ts.all noStar = true) (f : ∀ t ∈ ts, DG X pn vs t (gv t)) : DG X pn vs (.Tuple ts j pos) (C.tgTup (tgsL (ts.map gv))) := fun P ρ σ H v d ρ' Q g er r ef q => by
  cases d with
  | tuple ds =>
    obtain ⟨p, us, rfl, sx, ax⟩ := dp_tup r
    have ef : tgsL (ts.map gv) ds ρ = some ρ' := ef
    have hl := dgs_len ef
    rw [List.length_map] at hl
    obtain ⟨l1, l2⟩ := asg_len (env := X.env) hn
    exact WG.of (pg_tup hc pgs_wgs l1 l2) ⟨p, us, rfl, sqT_sub hid_le sx, by rw [DpAll.length ax, hl], dgs_all hn f P ρ σ H us ds ρ' _ g er ax ef q⟩
  | _ => cases ef
end
end
end Dl

set_option maxRecDepth 100000
set_option maxHeartbeats 4000000
/-! zip of three lists or of three tuples whose triple is kept by a name: the triple may still be out at the next turn. -/
namespace Z3
open PySem
open PySem.Sem (wp)
abbrev ZF (h : Heap) (N : Nat) (v : Value) (f : Bool) : Prop := h.get? (N + 5) = some { cls := .type "zip", dict := none, data := .fields #[v, .bool f, .bool false, .ref (N + 3), .ref (N + 4)], slots := #[] }
def Out (v : Value) : Prop := v = .none ∨ ∃ T : Nat, v = rawInt T
/-- one of the three iterators: over a list (true) or a tuple -/
def Sit : Bool → Heap → Addr → Addr → Nat → Array Value → Prop
  | true, h, it, l, k, xs => h.IsListIter it l k ∧ h.IsList l xs
  | false, h, it, l, k, xs => h.IsTupleIter it l k ∧ h.IsTuple l xs
section
variable {prog : Program} {w : World} {A : Around} {E : Value → Shared → Prop} {s : Shared}
theorem Sit.over {b : Bool} {h h' : Heap} {it l y : Addr} {k : Nat} {xs : Array Value} (t : Sit b h it l k xs) (hs : Heap.ExtBut y h h') (h1 : it ≠ y) (h2 : l ≠ y) : Sit b h' it l k xs := by
  cases b with
  | true => exact ⟨t.1.extBut hs h1, t.2.extBut hs h2⟩
  | false => exact ⟨t.1.extBut hs h1, t.2.extBut hs h2⟩
theorem Sit.on {b : Bool} {h h' : Heap} {it l : Addr} {k : Nat} {xs : Array Value} (t : Sit b h it l k xs) (hs : ∀ c o, c = it ∨ c = l → h.get? c = some o → h'.get? c = some o) : Sit b h' it l k xs := by
  cases b with
  | true => exact ⟨t.1.at fun o e => hs it o (.inl rfl) e, t.2.at fun o e => hs l o (.inr rfl) e⟩
  | false => exact ⟨t.1.at fun o e => hs it o (.inl rfl) e, t.2.at fun o e => hs l o (.inr rfl) e⟩
theorem sit_item {b : Bool} {it l : Addr} {k : Nat} {xs : Array Value} {x : Value} {Q : Value → Shared → Prop} (t : Sit b s.heap it l k xs) (hne : l ≠ it) (hx : xs[k]? = some x)
    (q : ∀ h', Sit b h' it l (k + 1) xs → Heap.SameBut it s.heap h' → Q x { s with heap := h' }) : wpAny (model prog w) A (Builtin.SmallTypes.nextOf (.ref it)) Q E s := by
  cases b with
  | true => exact wpAny_nextOf_list_item t.1 t.2 hx fun h' a c => q h' ⟨a, t.2.extBut c.extBut hne⟩ c
  | false => exact wpAny_nextOf_tuple_item t.1 t.2 hx fun h' a c => q h' ⟨a, t.2.extBut c.extBut hne⟩ c
theorem sit_done {b : Bool} {it l : Addr} {k : Nat} {xs : Array Value} {Q : Value → Shared → Prop} (hh : A.handled = none) (t : Sit b s.heap it l k xs) (hx : xs[k]? = none)
    (q : ∀ h' e, Heap.ExtBut it s.heap h' → (∃ o, h'.get? e = some o ∧ o.cls = .type "StopIteration") → E (.ref e) { s with heap := h' }) : wpAny (model prog w) A (Builtin.SmallTypes.nextOf (.ref it)) Q E s := by
  cases b with
  | true => exact wpAny_nextOf_list_end hh t.1 t.2 hx q
  | false => exact wpAny_nextOf_tuple_end hh t.1 t.2 hx q
theorem alive_any {a : Addr} {Q : Option Obj → Shared → Prop} (h : Q (s.heap.get? a) s) : wpAny (model prog w) A (loadIfAlive a) Q E s := fun _ _ _ => h
theorem free_any {N : Nat} {v : Value} {f : Bool} {Q : Bool → Shared → Prop} (hz : ZF s.heap N v f) (hv : Out v)
    (q : ∀ (r : Bool) h' v' f', ZF h' N v' f' → Out v' → Heap.SameBut (N + 5) s.heap h' → Q r { s with heap := h' }) : wpAny (model prog w) A (Builtin.SmallTypes.ownedTupleIsFree (.ref (N + 5))) Q E s := by
  unfold Builtin.SmallTypes.ownedTupleIsFree
  refine wpAny_bind (wpAny_field hz rfl (x := v) rfl ?_)
  have stay : ∀ r : Bool, Q r s := fun r => q r s.heap v f hz hv (Heap.SameBut.refl _ _)
  rcases hv with rfl | ⟨T, rfl⟩
  · exact wpAny_pure (stay true)
  · refine wpAny_bind (alive_any ?_)
    cases s.heap.get? ((T : Int).toNat) with
    | none =>
      simp only [Option.isNone_none, if_true]
      exact wpAny_pure (stay true)
    | some o =>
      simp only [Option.isNone_some, Bool.false_eq_true, if_false]
      refine wpAny_bind (wpAny_field hz rfl (x := .bool f) rfl ?_)
      cases f with
      | true =>
        rw [if_neg (show ¬ (((Value.bool true) != (Value.bool true)) = true) from Bool.false_ne_true)]
        exact wpAny_pure (stay false)
      | false =>
        rw [if_pos (show ((Value.bool false) != (Value.bool true)) = true from rfl)]
        exact wpAny_bind (wpAny_setField_rec hz (by simp) fun h1 z1 s1 => wpAny_pure (q false h1 (rawInt T) true z1 (.inr ⟨T, rfl⟩) s1))
/-- the state between two turns -/
structure At (b : Bool) (h : Heap) (N l1 l2 l3 k : Nat) (xs ys zs : Array Value) : Prop where
  z : ∃ v f, ZF h N v f ∧ Out v
  ti : IsTupOf3 h (N + 3) (.ref N) (.ref (N + 1)) (.ref (N + 2))
  to : ∃ a1 a2 a3, IsTupOf3 h (N + 4) a1 a2 a3
  i1 : Sit b h N l1 k xs
  i2 : Sit b h (N + 1) l2 k ys
  i3 : Sit b h (N + 2) l3 k zs
def Far (N : Nat) (h h' : Heap) : Prop := ∀ c o, (c < N ∨ N + 6 ≤ c) → h.get? c = some o → h'.get? c = some o
theorem far_trans {N : Nat} {h h' h'' : Heap} (a : Far N h h') (b : Far N h' h'') : Far N h h'' := fun c o hc e => b c o hc (a c o hc e)
theorem far_of {N y : Nat} {h h' : Heap} (a : Heap.ExtBut y h h') (h1 : N ≤ y) (h2 : y < N + 6) : Far N h h' := fun c o hc e => a c o (fun q => by
  rw [q] at hc
  rcases hc with u | u
  · exact absurd h1 (Nat.not_le.mpr u)
  · exact absurd h2 (Nat.not_lt.mpr u)) e
theorem same_size {y : Addr} {h h' : Heap} (a : Heap.SameBut y h h') : h'.objs.size = h.objs.size := a.1
theorem ne_of {a b : Nat} (h : a < b) : (a : Addr) ≠ b := fun e => by have e' : a = b := e; omega
theorem ne_of' {a b : Nat} (h : b < a) : (a : Addr) ≠ b := fun e => by have e' : a = b := e; omega
theorem z3_item {b : Bool} {N l1 l2 l3 k : Nat} {xs ys zs : Array Value} {x y u : Value} {Q : Value → Shared → Prop} (t : At b s.heap N l1 l2 l3 k xs ys zs) (p1 : l1 < N) (p2 : l2 < N) (p3 : l3 < N) (hx : xs[k]? = some x) (hy : ys[k]? = some y) (hu : zs[k]? = some u)
    (q : ∀ h', At b h' N l1 l2 l3 (k + 1) xs ys zs → IsTupOf3 h' s.heap.objs.size x y u → h'.objs.size = s.heap.objs.size + 1 → Far N s.heap h' → Q (.ref s.heap.objs.size) { s with heap := h' }) :
    wpAny (model prog w) A (Builtin.«zip.__next__» ⟨[.ref (N + 5)], []⟩) (fun fin s' => ∃ v, fin = .done (.ret v) ∧ Q v s') E s := by
  obtain ⟨hp, g, d, tk, os⟩ := s
  obtain ⟨⟨v, f, hz, hv⟩, hti, ⟨a1, a2, a3, hto⟩, t1, t2, t3⟩ := t
  show wpAny _ _ (field (.ref (N + 5)) 2 >>= _) _ _ _
  refine wpAny_bind (wpAny_field hz rfl (x := .bool false) rfl ?_)
  show wpAny _ _ (field (.ref (N + 5)) 3 >>= _) _ _ _
  refine wpAny_bind (wpAny_field hz rfl (x := .ref (N + 3)) rfl (wpAny_bind (wpAny_seqItems hti rfl ?_)))
  show wpAny _ _ (Builtin.SmallTypes.ownedTupleIsFree (.ref (N + 5)) >>= _) _ _ _
  refine wpAny_bind (free_any hz hv fun r e0 v0 f0 z0 o0 s0 => ?_)
  replace s0 : Heap.SameBut (N + 5) hp e0 := s0
  have ti0 := s0.extBut _ _ (ne_of (by omega)) hti
  have to0 := s0.extBut _ _ (ne_of (by omega)) hto
  have r1 := t1.over s0.extBut (ne_of (by omega)) (ne_of (by omega))
  have r2 := t2.over s0.extBut (ne_of (by omega)) (ne_of (by omega))
  have r3 := t3.over s0.extBut (ne_of (by omega)) (ne_of (by omega))
  have far0 : Far N hp e0 := far_of s0.extBut (by omega) (by omega)
  cases r with
  | false =>
    simp only [Bool.false_eq_true, if_false]
    refine wpAny_bind ?_
    rw [← Array.forIn_toList]
    simp only [List.forIn_cons, List.forIn_nil]
    refine wpAny_bind (wpAny_bind (wpAny_holding ?_))
    show wpAny _ _ (Builtin.SmallTypes.nextOf (.ref N) >>= _) _ _ ⟨e0, g, d, tk, os⟩
    refine wpAny_bind (sit_item (s := ⟨e0, g, d, tk, os⟩) r1 (ne_of p1) hx fun e1 q1 s1 => wpAny_pure (wpAny_pure ?_))
    replace s1 : Heap.SameBut N e0 e1 := s1
    refine wpAny_bind (wpAny_bind (wpAny_holding ?_))
    show wpAny _ _ (Builtin.SmallTypes.nextOf (.ref (N + 1)) >>= _) _ _ ⟨e1, g, d, tk, os⟩
    refine wpAny_bind (sit_item (s := ⟨e1, g, d, tk, os⟩) (r2.over s1.extBut (ne_of' (by omega)) (ne_of p2)) (ne_of (by omega)) hy fun e2 q2 s2 => wpAny_pure (wpAny_pure ?_))
    replace s2 : Heap.SameBut (N + 1) e1 e2 := s2
    refine wpAny_bind (wpAny_bind (wpAny_holding ?_))
    show wpAny _ _ (Builtin.SmallTypes.nextOf (.ref (N + 2)) >>= _) _ _ ⟨e2, g, d, tk, os⟩
    refine wpAny_bind (sit_item (s := ⟨e2, g, d, tk, os⟩) ((r3.over s1.extBut (ne_of' (by omega)) (ne_of p3)).over s2.extBut (ne_of' (by omega)) (ne_of (by omega))) (ne_of (by omega)) hu fun e3 q3 s3 => wpAny_pure (wpAny_pure (wpAny_pure ?_)))
    replace s3 : Heap.SameBut (N + 2) e2 e3 := s3
    show wpAny _ _ (newTuple [x, y, u] >>= _) _ _ _
    refine wpAny_bind (wpAny_newTuple (wpAny_pure ⟨_, rfl, ?_⟩))
    have sz : e3.objs.size = hp.objs.size := by rw [same_size s3, same_size s2, same_size s1, same_size s0]
    have up : ∀ {c o}, e3.get? c = some o → (e3.push { cls := .type "tuple", data := .seq #[x, y, u] }).get? c = some o := fun e => Heap.get?_push_of_some _ e
    have far3 : Far N e0 e3 := far_trans (far_of s1.extBut (by omega) (by omega)) (far_trans (far_of s2.extBut (by omega) (by omega)) (far_of s3.extBut (by omega) (by omega)))
    have new : IsTupOf3 (e3.push { cls := .type "tuple", data := .seq #[x, y, u] }) e3.objs.size x y u := Heap.get?_push_size _ rfl
    have thru : ∀ c o, c ≠ N → c ≠ N + 1 → c ≠ N + 2 → e0.get? c = some o → e3.get? c = some o := fun c o c1 c2 c3 e => s3.extBut _ _ c3 (s2.extBut _ _ c2 (s1.extBut _ _ c1 e))
    show Q (.ref e3.objs.size) _
    rw [sz] at new ⊢
    refine q _ ⟨⟨v0, f0, up (thru _ _ (ne_of' (by omega)) (ne_of' (by omega)) (ne_of' (by omega)) z0), o0⟩, up (thru _ _ (ne_of' (by omega)) (ne_of' (by omega)) (ne_of' (by omega)) ti0), ⟨a1, a2, a3, up (thru _ _ (ne_of' (by omega)) (ne_of' (by omega)) (ne_of' (by omega)) to0)⟩, ?_, ?_, ?_⟩ new (by rw [Heap.size_push, sz]) (far_trans far0 (far_trans far3 fun c o _ e => up e))
    · exact ((q1.over s2.extBut (ne_of (by omega)) (ne_of (by omega))).over s3.extBut (ne_of (by omega)) (ne_of (by omega))).on fun c o _ e => up e
    · exact (q2.over s3.extBut (ne_of (by omega)) (ne_of (by omega))).on fun c o _ e => up e
    · exact q3.on fun c o _ e => up e
  | true =>
    simp only [if_true]
    refine wpAny_bind (wpAny_rule (wpAny_bind (wpAny_field z0 rfl (x := .ref (N + 4)) rfl (wpAny_bind (wpAny_setField_rec z0 (by simp) fun e1 z1 s1 => wpAny_bind ?_)))))
    replace z1 : ZF e1 N .ellipsis f0 := z1
    replace s1 : Heap.SameBut (N + 5) e0 e1 := s1
    simp only [List.zipIdx_cons, List.zipIdx_nil, List.forIn_cons, List.forIn_nil]
    refine wpAny_bind (wpAny_bind (wpAny_onRaise ?_))
    show wpAny _ _ (Builtin.SmallTypes.nextOf (.ref N) >>= _) _ _ ⟨e1, g, d, tk, os⟩
    refine wpAny_bind (sit_item (s := ⟨e1, g, d, tk, os⟩) (r1.over s1.extBut (ne_of (by omega)) (ne_of (by omega))) (ne_of p1) hx fun e2 q1 s2 => wpAny_pure ?_)
    replace s2 : Heap.SameBut N e1 e2 := s2
    have to2 : IsTupOf3 e2 (N + 4) a1 a2 a3 := s2.extBut _ _ (ne_of' (by omega)) (s1.extBut _ _ (ne_of (by omega)) to0)
    refine wpAny_bind (wpAny_seqItems (s := ⟨e2, g, d, tk, os⟩) to2 rfl (wpAny_bind (updateSeq_IsTupOf3 (s := ⟨e2, g, d, tk, os⟩) to2 fun e3 to3 s3 => wpAny_bind (wpAny_letGo (wpAny_pure ?_)))))
    replace to3 : IsTupOf3 e3 (N + 4) x a2 a3 := to3
    replace s3 : Heap.SameBut (N + 4) e2 e3 := s3
    refine wpAny_bind (wpAny_bind (wpAny_onRaise ?_))
    show wpAny _ _ (Builtin.SmallTypes.nextOf (.ref (N + 1)) >>= _) _ _ ⟨e3, g, d, tk, os⟩
    refine wpAny_bind (sit_item (s := ⟨e3, g, d, tk, os⟩) (((r2.over s1.extBut (ne_of (by omega)) (ne_of (by omega))).over s2.extBut (ne_of' (by omega)) (ne_of p2)).over s3.extBut (ne_of (by omega)) (ne_of (by omega))) (ne_of (by omega)) hy fun e4 q2 s4 => wpAny_pure ?_)
    replace s4 : Heap.SameBut (N + 1) e3 e4 := s4
    have to4 : IsTupOf3 e4 (N + 4) x a2 a3 := s4.extBut _ _ (ne_of' (by omega)) to3
    refine wpAny_bind (wpAny_seqItems (s := ⟨e4, g, d, tk, os⟩) to4 rfl (wpAny_bind (updateSeq_IsTupOf3 (s := ⟨e4, g, d, tk, os⟩) to4 fun e5 to5 s5 => wpAny_bind (wpAny_letGo (wpAny_pure ?_)))))
    replace to5 : IsTupOf3 e5 (N + 4) x y a3 := to5
    replace s5 : Heap.SameBut (N + 4) e4 e5 := s5
    refine wpAny_bind (wpAny_bind (wpAny_onRaise ?_))
    show wpAny _ _ (Builtin.SmallTypes.nextOf (.ref (N + 2)) >>= _) _ _ ⟨e5, g, d, tk, os⟩
    refine wpAny_bind (sit_item (s := ⟨e5, g, d, tk, os⟩) (((((r3.over s1.extBut (ne_of (by omega)) (ne_of (by omega))).over s2.extBut (ne_of' (by omega)) (ne_of p3)).over s3.extBut (ne_of (by omega)) (ne_of (by omega))).over s4.extBut (ne_of' (by omega)) (ne_of (by omega))).over s5.extBut (ne_of (by omega)) (ne_of (by omega))) (ne_of (by omega)) hu fun e6 q3 s6 => wpAny_pure ?_)
    replace s6 : Heap.SameBut (N + 2) e5 e6 := s6
    have to6 : IsTupOf3 e6 (N + 4) x y a3 := s6.extBut _ _ (ne_of' (by omega)) to5
    refine wpAny_bind (wpAny_seqItems (s := ⟨e6, g, d, tk, os⟩) to6 rfl (wpAny_bind (updateSeq_IsTupOf3 (s := ⟨e6, g, d, tk, os⟩) to6 fun e7 to7 s7 => wpAny_bind (wpAny_letGo (wpAny_pure (wpAny_pure ?_))))))
    replace to7 : IsTupOf3 e7 (N + 4) x y u := to7
    replace s7 : Heap.SameBut (N + 4) e6 e7 := s7
    refine wpAny_bind (wpAny_seqItems (s := ⟨e7, g, d, tk, os⟩) to7 rfl (wpAny_bind (wpAny_newTuple ?_)))
    have sz : e7.objs.size = hp.objs.size := by rw [same_size s7, same_size s6, same_size s5, same_size s4, same_size s3, same_size s2, same_size s1, same_size s0]
    have z7 : ZF e7 N .ellipsis f0 := s7.extBut _ _ (ne_of' (by omega)) (s6.extBut _ _ (ne_of' (by omega)) (s5.extBut _ _ (ne_of' (by omega)) (s4.extBut _ _ (ne_of' (by omega)) (s3.extBut _ _ (ne_of' (by omega)) (s2.extBut _ _ (ne_of' (by omega)) z1)))))
    have ti7 : IsTupOf3 e7 (N + 3) (.ref N) (.ref (N + 1)) (.ref (N + 2)) := s7.extBut _ _ (ne_of (by omega)) (s6.extBut _ _ (ne_of' (by omega)) (s5.extBut _ _ (ne_of (by omega)) (s4.extBut _ _ (ne_of' (by omega)) (s3.extBut _ _ (ne_of (by omega)) (s2.extBut _ _ (ne_of' (by omega)) (s1.extBut _ _ (ne_of (by omega)) ti0))))))
    have j1 := ((((q1.over s3.extBut (ne_of (by omega)) (ne_of (by omega))).over s4.extBut (ne_of (by omega)) (ne_of (by omega))).over s5.extBut (ne_of (by omega)) (ne_of (by omega))).over s6.extBut (ne_of (by omega)) (ne_of (by omega))).over s7.extBut (ne_of (by omega)) (ne_of (by omega))
    have j2 := ((q2.over s5.extBut (ne_of (by omega)) (ne_of (by omega))).over s6.extBut (ne_of (by omega)) (ne_of (by omega))).over s7.extBut (ne_of (by omega)) (ne_of (by omega))
    have j3 := q3.over s7.extBut (ne_of (by omega)) (ne_of (by omega))
    have far7 : Far N hp e7 := far_trans far0 (far_trans (far_of s1.extBut (by omega) (by omega)) (far_trans (far_of s2.extBut (by omega) (by omega)) (far_trans (far_of s3.extBut (by omega) (by omega)) (far_trans (far_of s4.extBut (by omega) (by omega)) (far_trans (far_of s5.extBut (by omega) (by omega)) (far_trans (far_of s6.extBut (by omega) (by omega)) (far_of s7.extBut (by omega) (by omega))))))))
    show wpAny _ _ (Builtin.SmallTypes.ownedTupleHandOut (.ref (N + 5)) (.ref e7.objs.size) >>= _) _ _ ⟨e7.push { cls := .type "tuple", data := .seq #[x, y, u] }, g, d, tk, os⟩
    refine wpAny_bind ?_
    unfold Builtin.SmallTypes.ownedTupleHandOut
    have z8 : ZF (e7.push { cls := .type "tuple", data := .seq #[x, y, u] }) N .ellipsis f0 := Heap.get?_push_of_some _ z7
    refine wpAny_bind (wpAny_setField_rec z8 (by simp) fun e8 z9 s8 => ?_)
    replace z9 : ZF e8 N (rawInt e7.objs.size) f0 := z9
    replace s8 : Heap.SameBut (N + 5) (e7.push { cls := .type "tuple", data := .seq #[x, y, u] }) e8 := s8
    refine wpAny_setField_rec z9 (by simp) fun e9 z10 s9 => wpAny_pure ⟨_, rfl, ?_⟩
    replace z10 : ZF e9 N (rawInt e7.objs.size) false := z10
    replace s9 : Heap.SameBut (N + 5) e8 e9 := s9
    have hN : N + 5 < e7.objs.size := Heap.lt_size z7
    have up : ∀ c o, c ≠ N + 5 → e7.get? c = some o → e9.get? c = some o := fun c o c1 e => s9.extBut _ _ c1 (s8.extBut _ _ c1 (Heap.get?_push_of_some _ e))
    have new : IsTupOf3 e9 e7.objs.size x y u := s9.extBut _ _ (ne_of' hN) (s8.extBut _ _ (ne_of' hN) (Heap.get?_push_size _ rfl))
    have s10 : e9.objs.size = e7.objs.size + 1 := by rw [same_size s9, same_size s8, Heap.size_push]
    show Q (.ref e7.objs.size) ⟨e9, g, d, tk, os⟩
    rw [sz] at new s10 ⊢
    refine q e9 ⟨⟨_, _, z10, .inr ⟨_, rfl⟩⟩, up _ _ (ne_of (by omega)) ti7, ⟨x, y, u, up _ _ (ne_of (by omega)) to7⟩, ?_, ?_, ?_⟩ new s10 (far_trans far7 fun c o hc e => up c o (fun z => by rw [z] at hc; rcases hc with hc | hc <;> exact absurd hc (by omega)) e)
    · exact j1.on fun c o hc e => up c o (by rcases hc with rfl | rfl <;> exact ne_of (by omega)) e
    · exact j2.on fun c o hc e => up c o (by rcases hc with rfl | rfl <;> exact ne_of (by omega)) e
    · exact j3.on fun c o hc e => up c o (by rcases hc with rfl | rfl <;> exact ne_of (by omega)) e
theorem z3_end {b : Bool} {N l1 l2 l3 k : Nat} {xs ys zs : Array Value} {Q : PySem.Fin → Shared → Prop} (hh : A.handled = none) (t : At b s.heap N l1 l2 l3 k xs ys zs) (p1 : l1 < N) (p2 : l2 < N) (p3 : l3 < N) (stop : xs[k]? = none ∨ ys[k]? = none ∨ zs[k]? = none)
    (q : ∀ h' e, Far N s.heap h' → (∃ o, h'.get? e = some o ∧ o.cls = .type "StopIteration") → E (.ref e) { s with heap := h' }) :
    wpAny (model prog w) A (Builtin.«zip.__next__» ⟨[.ref (N + 5)], []⟩) Q E s := by
  obtain ⟨hp, g, d, tk, os⟩ := s
  obtain ⟨⟨v, f, hz, hv⟩, hti, ⟨a1, a2, a3, hto⟩, t1, t2, t3⟩ := t
  show wpAny _ _ (field (.ref (N + 5)) 2 >>= _) _ _ _
  refine wpAny_bind (wpAny_field hz rfl (x := .bool false) rfl ?_)
  show wpAny _ _ (field (.ref (N + 5)) 3 >>= _) _ _ _
  refine wpAny_bind (wpAny_field hz rfl (x := .ref (N + 3)) rfl (wpAny_bind (wpAny_seqItems hti rfl ?_)))
  show wpAny _ _ (Builtin.SmallTypes.ownedTupleIsFree (.ref (N + 5)) >>= _) _ _ _
  refine wpAny_bind (free_any hz hv fun r e0 v0 f0 z0 o0 s0 => ?_)
  replace s0 : Heap.SameBut (N + 5) hp e0 := s0
  have to0 := s0.extBut _ _ (ne_of (by omega)) hto
  have r1 := t1.over s0.extBut (ne_of (by omega)) (ne_of (by omega))
  have r2 := t2.over s0.extBut (ne_of (by omega)) (ne_of (by omega))
  have r3 := t3.over s0.extBut (ne_of (by omega)) (ne_of (by omega))
  have far0 : Far N hp e0 := far_of s0.extBut (by omega) (by omega)
  cases r with
  | false =>
    simp only [Bool.false_eq_true, if_false]
    refine wpAny_bind ?_
    rw [← Array.forIn_toList]
    simp only [List.forIn_cons, List.forIn_nil]
    refine wpAny_bind (wpAny_bind (wpAny_holding ?_))
    show wpAny _ _ (Builtin.SmallTypes.nextOf (.ref N) >>= _) _ _ ⟨e0, g, d, tk, os⟩
    cases hx : xs[k]? with
    | none => exact wpAny_bind (sit_done (s := ⟨e0, g, d, tk, os⟩) hh r1 hx fun e1 e x1 he => q e1 e (far_trans far0 (far_of x1 (by omega) (by omega))) he)
    | some x =>
      refine wpAny_bind (sit_item (s := ⟨e0, g, d, tk, os⟩) r1 (ne_of p1) hx fun e1 q1 s1 => wpAny_pure (wpAny_pure ?_))
      replace s1 : Heap.SameBut N e0 e1 := s1
      have far1 := far_trans far0 (far_of s1.extBut (by omega) (by omega))
      refine wpAny_bind (wpAny_bind (wpAny_holding ?_))
      show wpAny _ _ (Builtin.SmallTypes.nextOf (.ref (N + 1)) >>= _) _ _ ⟨e1, g, d, tk, os⟩
      have r2' := r2.over s1.extBut (ne_of' (by omega)) (ne_of p2)
      cases hy : ys[k]? with
      | none => exact wpAny_bind (sit_done (s := ⟨e1, g, d, tk, os⟩) hh r2' hy fun e2 e x2 he => q e2 e (far_trans far1 (far_of x2 (by omega) (by omega))) he)
      | some y =>
        have hu : zs[k]? = none := by rcases stop with h | h | h; (rw [hx] at h; cases h); (rw [hy] at h; cases h); exact h
        refine wpAny_bind (sit_item (s := ⟨e1, g, d, tk, os⟩) r2' (ne_of (by omega)) hy fun e2 q2 s2 => wpAny_pure (wpAny_pure ?_))
        replace s2 : Heap.SameBut (N + 1) e1 e2 := s2
        have far2 := far_trans far1 (far_of s2.extBut (by omega) (by omega))
        refine wpAny_bind (wpAny_bind (wpAny_holding ?_))
        show wpAny _ _ (Builtin.SmallTypes.nextOf (.ref (N + 2)) >>= _) _ _ ⟨e2, g, d, tk, os⟩
        exact wpAny_bind (sit_done (s := ⟨e2, g, d, tk, os⟩) hh ((r3.over s1.extBut (ne_of' (by omega)) (ne_of p3)).over s2.extBut (ne_of' (by omega)) (ne_of (by omega))) hu fun e3 e x3 he => q e3 e (far_trans far2 (far_of x3 (by omega) (by omega))) he)
  | true =>
    simp only [if_true]
    refine wpAny_bind (wpAny_rule (wpAny_bind (wpAny_field z0 rfl (x := .ref (N + 4)) rfl (wpAny_bind (wpAny_setField_rec z0 (by simp) fun e1 z1 s1 => wpAny_bind ?_)))))
    replace z1 : ZF e1 N .ellipsis f0 := z1
    replace s1 : Heap.SameBut (N + 5) e0 e1 := s1
    have far1 := far_trans far0 (far_of s1.extBut (by omega) (by omega))
    have last : ∀ (h' : Heap) (e : Addr), ZF h' N .ellipsis f0 → Far N hp h' → (∃ o, h'.get? e = some o ∧ o.cls = .type "StopIteration") → wpAny (model prog w) A (setField (.ref (N + 5)) 0 .none) (fun _ s'' => E (.ref e) s'') E ⟨h', g, d, tk, os⟩ := fun h' e z' far' he => by
      obtain ⟨o, ho, hc⟩ := he
      have hne : e ≠ N + 5 := fun x => by subst x; rw [z'] at ho; cases ho; simp at hc
      refine wpAny_setField_rec (s := ⟨h', g, d, tk, os⟩) z' (by simp) fun h2 _ s2 => ?_
      replace s2 : Heap.SameBut (N + 5) h' h2 := s2
      exact q h2 e (far_trans far' (far_of s2.extBut (by omega) (by omega))) ⟨o, s2.extBut _ _ hne ho, hc⟩
    simp only [List.zipIdx_cons, List.zipIdx_nil, List.forIn_cons, List.forIn_nil]
    refine wpAny_bind (wpAny_bind (wpAny_onRaise ?_))
    show wpAny _ _ (Builtin.SmallTypes.nextOf (.ref N) >>= _) _ _ ⟨e1, g, d, tk, os⟩
    have r1' := r1.over s1.extBut (ne_of (by omega)) (ne_of (by omega))
    cases hx : xs[k]? with
    | none =>
      refine wpAny_bind (sit_done (s := ⟨e1, g, d, tk, os⟩) hh r1' hx fun e2 e x2 he => ?_)
      replace x2 : Heap.ExtBut N e1 e2 := x2
      exact last e2 e (x2 _ _ (ne_of' (by omega)) z1) (far_trans far1 (far_of x2 (by omega) (by omega))) he
    | some x =>
      refine wpAny_bind (sit_item (s := ⟨e1, g, d, tk, os⟩) r1' (ne_of p1) hx fun e2 q1 s2 => wpAny_pure ?_)
      replace s2 : Heap.SameBut N e1 e2 := s2
      have to2 : IsTupOf3 e2 (N + 4) a1 a2 a3 := s2.extBut _ _ (ne_of' (by omega)) (s1.extBut _ _ (ne_of (by omega)) to0)
      refine wpAny_bind (wpAny_seqItems (s := ⟨e2, g, d, tk, os⟩) to2 rfl (wpAny_bind (updateSeq_IsTupOf3 (s := ⟨e2, g, d, tk, os⟩) to2 fun e3 to3 s3 => wpAny_bind (wpAny_letGo (wpAny_pure ?_)))))
      replace to3 : IsTupOf3 e3 (N + 4) x a2 a3 := to3
      replace s3 : Heap.SameBut (N + 4) e2 e3 := s3
      have z3 : ZF e3 N .ellipsis f0 := s3.extBut _ _ (ne_of' (by omega)) (s2.extBut _ _ (ne_of' (by omega)) z1)
      have far3 := far_trans far1 (far_trans (far_of s2.extBut (by omega) (by omega)) (far_of s3.extBut (by omega) (by omega)))
      refine wpAny_bind (wpAny_bind (wpAny_onRaise ?_))
      show wpAny _ _ (Builtin.SmallTypes.nextOf (.ref (N + 1)) >>= _) _ _ ⟨e3, g, d, tk, os⟩
      have r2' := ((r2.over s1.extBut (ne_of (by omega)) (ne_of (by omega))).over s2.extBut (ne_of' (by omega)) (ne_of p2)).over s3.extBut (ne_of (by omega)) (ne_of (by omega))
      cases hy : ys[k]? with
      | none =>
        refine wpAny_bind (sit_done (s := ⟨e3, g, d, tk, os⟩) hh r2' hy fun e4 e x4 he => ?_)
        replace x4 : Heap.ExtBut (N + 1) e3 e4 := x4
        exact last e4 e (x4 _ _ (ne_of' (by omega)) z3) (far_trans far3 (far_of x4 (by omega) (by omega))) he
      | some y =>
        have hu : zs[k]? = none := by rcases stop with h | h | h; (rw [hx] at h; cases h); (rw [hy] at h; cases h); exact h
        refine wpAny_bind (sit_item (s := ⟨e3, g, d, tk, os⟩) r2' (ne_of (by omega)) hy fun e4 q2 s4 => wpAny_pure ?_)
        replace s4 : Heap.SameBut (N + 1) e3 e4 := s4
        have to4 : IsTupOf3 e4 (N + 4) x a2 a3 := s4.extBut _ _ (ne_of' (by omega)) to3
        refine wpAny_bind (wpAny_seqItems (s := ⟨e4, g, d, tk, os⟩) to4 rfl (wpAny_bind (updateSeq_IsTupOf3 (s := ⟨e4, g, d, tk, os⟩) to4 fun e5 to5 s5 => wpAny_bind (wpAny_letGo (wpAny_pure ?_)))))
        replace s5 : Heap.SameBut (N + 4) e4 e5 := s5
        have z5 : ZF e5 N .ellipsis f0 := s5.extBut _ _ (ne_of' (by omega)) (s4.extBut _ _ (ne_of' (by omega)) z3)
        have far5 := far_trans far3 (far_trans (far_of s4.extBut (by omega) (by omega)) (far_of s5.extBut (by omega) (by omega)))
        refine wpAny_bind (wpAny_bind (wpAny_onRaise ?_))
        show wpAny _ _ (Builtin.SmallTypes.nextOf (.ref (N + 2)) >>= _) _ _ ⟨e5, g, d, tk, os⟩
        refine wpAny_bind (sit_done (s := ⟨e5, g, d, tk, os⟩) hh ((((r3.over s1.extBut (ne_of (by omega)) (ne_of (by omega))).over s2.extBut (ne_of' (by omega)) (ne_of p3)).over s3.extBut (ne_of (by omega)) (ne_of (by omega))).over s4.extBut (ne_of' (by omega)) (ne_of (by omega)) |>.over s5.extBut (ne_of (by omega)) (ne_of (by omega))) hu fun e6 e x6 he => ?_)
        replace x6 : Heap.ExtBut (N + 2) e5 e6 := x6
        exact last e6 e (x6 _ _ (ne_of' (by omega)) z5) (far_trans far5 (far_of x6 (by omega) (by omega))) he
theorem next_item {b : Bool} {N l1 l2 l3 k : Nat} {xs ys zs : Array Value} {x y u : Value} {Q : Option Value → Shared → Prop} (t : At b s.heap N l1 l2 l3 k xs ys zs) (p1 : l1 < N) (p2 : l2 < N) (p3 : l3 < N) (hx : xs[k]? = some x) (hy : ys[k]? = some y) (hu : zs[k]? = some u)
    (q : ∀ h', At b h' N l1 l2 l3 (k + 1) xs ys zs → IsTupOf3 h' s.heap.objs.size x y u → h'.objs.size = s.heap.objs.size + 1 → Far N s.heap h' → Q (some (.ref s.heap.objs.size)) { s with heap := h' }) : wpAny (model prog w) A (pyNext (.ref (N + 5))) Q E s := by
  obtain ⟨v, f, hz, hv⟩ := t.z
  have ty : s.TypeIs (.ref (N + 5)) "zip" := ⟨_, hz, rfl⟩
  unfold pyNext
  refine wpAny_bind (wpAny_attempt (wpAny_callSpecial?_slot (name := Str.ofString "__next__") ty F.slot_zip_next (wpAny_call_entry F.slot_zip_next ty F.entry_zip_next ?_ (F.args_zip_next_1 _))))
  exact z3_item t p1 p2 p3 hx hy hu fun h' a1 a2 a3 a4 => wpAny_pure (q h' a1 a2 a3 a4)
theorem next_end {b : Bool} {N l1 l2 l3 k : Nat} {xs ys zs : Array Value} {Q : Option Value → Shared → Prop} (hh : A.handled = none) (t : At b s.heap N l1 l2 l3 k xs ys zs) (p1 : l1 < N) (p2 : l2 < N) (p3 : l3 < N) (stop : xs[k]? = none ∨ ys[k]? = none ∨ zs[k]? = none)
    (q : ∀ h', Far N s.heap h' → Q none { s with heap := h' }) : wpAny (model prog w) A (pyNext (.ref (N + 5))) Q E s := by
  obtain ⟨v, f, hz, hv⟩ := t.z
  have ty : s.TypeIs (.ref (N + 5)) "zip" := ⟨_, hz, rfl⟩
  unfold pyNext
  refine wpAny_bind (wpAny_attempt (wpAny_callSpecial?_slot (name := Str.ofString "__next__") ty F.slot_zip_next (wpAny_call_entry F.slot_zip_next ty F.entry_zip_next ?_ (F.args_zip_next_1 _))))
  refine z3_end hh t p1 p2 p3 stop fun h' e far he => ?_
  obtain ⟨o, ho, hc⟩ := he
  exact wpAny_bind (wpAny_isInstance (T := "StopIteration") (b := true) ⟨o, ho, hc⟩ isSubtype_stop (wpAny_pure (q h' far)))
end
end Z3

set_option maxRecDepth 100000
set_option maxHeartbeats 4000000
/-! zip of three at the hand layer: for a name (its triple is kept), lists or tuples; and on plain data. -/
namespace Z3
open PySem PySem.Spec PyProof.Rows L2
def Sq (K : PySem.W.Frag) : Bool → Hp → Addr → List V → Prop
  | true, H, a, xs => SqL K H a xs
  | false, H, a, xs => SqT K H a xs
def It3 (K : PySem.W.Frag) (b : Bool) (l1 l2 l3 : Addr) : It :=
  ⟨fun i H => ∃ (xs ys zs : List V) (x y u : V), Sq K b H l1 xs ∧ Sq K b H l2 ys ∧ Sq K b H l3 zs ∧ xs[i]? = some x ∧ ys[i]? = some y ∧ zs[i]? = some u,
    fun i H v H' => ∃ T x y u, v = .ref T ∧ H T = none ∧ H' = upd H T (.tup [x, y, u]) ∧ (∀ xs, Sq K b H l1 xs → xs[i]? = some x) ∧ (∀ ys, Sq K b H l2 ys → ys[i]? = some y) ∧ ∀ zs, Sq K b H l3 zs → zs[i]? = some u,
    fun i H => ∃ xs ys zs : List V, Sq K b H l1 xs ∧ Sq K b H l2 ys ∧ Sq K b H l3 zs ∧ (xs.length ≤ i ∨ ys.length ≤ i ∨ zs.length ≤ i)⟩
def Ti : Bool → Heap → Addr → Addr → Nat → Prop
  | true, h, it, l, k => h.IsListIter it l k
  | false, h, it, l, k => h.IsTupleIter it l k
structure Tn (b : Bool) (N l1 l2 l3 k : Nat) (h : Heap) : Prop where
  z : ∃ v f, ZF h N v f ∧ Out v
  ti : IsTupOf3 h (N + 3) (.ref N) (.ref (N + 1)) (.ref (N + 2))
  to : ∃ a1 a2 a3, IsTupOf3 h (N + 4) a1 a2 a3
  i1 : Ti b h N l1 k
  i2 : Ti b h (N + 1) l2 k
  i3 : Ti b h (N + 2) l3 k
def cells (N : Nat) : List Addr := [N + 5, N + 3, N + 4, N, N + 1, N + 2]
theorem mem_cells {N : Nat} {c : Addr} : c ∈ cells N ↔ c = N + 5 ∨ c = N + 3 ∨ c = N + 4 ∨ c = N ∨ c = N + 1 ∨ c = N + 2 := by simp [cells]
theorem far_cells {N c : Nat} (h : (c : Addr) ∉ cells N) : c < N ∨ N + 6 ≤ c := by
  rw [mem_cells] at h
  have h5 : c ≠ N + 5 := fun e => h (.inl e)
  have h3 : c ≠ N + 3 := fun e => h (.inr (.inl e))
  have h4 : c ≠ N + 4 := fun e => h (.inr (.inr (.inl e)))
  have h0 : c ≠ N := fun e => h (.inr (.inr (.inr (.inl e))))
  have h1 : c ≠ N + 1 := fun e => h (.inr (.inr (.inr (.inr (.inl e)))))
  have h2 : c ≠ N + 2 := fun e => h (.inr (.inr (.inr (.inr (.inr e)))))
  omega
theorem Ti.obj {b : Bool} {h : Heap} {it l : Addr} {k : Nat} (t : Ti b h it l k) : ∃ o, h.get? it = some o ∧ ∀ v, o.data ≠ .cell v := by
  cases b with
  | true => obtain ⟨o, e, _, d⟩ := t; exact ⟨o, e, fun v q => by rw [d] at q; cases q⟩
  | false => obtain ⟨o, e, _, d⟩ := t; exact ⟨o, e, fun v q => by rw [d] at q; cases q⟩
theorem Ti.on {b : Bool} {h h' : Heap} {it l : Addr} {k : Nat} (t : Ti b h it l k) (q : ∀ o, h.get? it = some o → h'.get? it = some o) : Ti b h' it l k := by
  cases b with
  | true => exact Heap.IsListIter.at t q
  | false => exact Heap.IsTupleIter.at t q
theorem sq_get {X : Cx} {pins : List (Addr × Obj)} {s : Shared} {σ : L2.St} {H : Hp} (I : Inv X pins σ H s) {b : Bool} {l : Addr} {xs : List V} (h : Sq X.K b H l xs) :
    ∃ its : List Value, Vals xs its ∧ l < s.heap.objs.size ∧ ∀ it k, Ti b s.heap it l k → Sit b s.heap it l k its.toArray := by
  cases b with
  | true =>
    obtain ⟨its, rv, p, _⟩ := I.list h
    exact ⟨its, rv, p.lt, fun it k t => ⟨t, p.isList⟩⟩
  | false =>
    obtain ⟨its, rv, p, _⟩ := I.tuple h
    obtain ⟨o, ho, _⟩ := id p
    exact ⟨its, rv, Heap.lt_size ho, fun it k t => ⟨t, p⟩⟩
theorem sq_inj {X : Cx} {pins : List (Addr × Obj)} {s : Shared} {σ : L2.St} {H : Hp} (I : Inv X pins σ H s) {b : Bool} {l : Addr} {xs ys : List V} (h : Sq X.K b H l xs) (h' : Sq X.K b H l ys) : xs = ys := by
  cases b with
  | true => exact I.list_inj h h'
  | false => exact I.tuple_inj h h'
theorem Sit.ti {b : Bool} {h : Heap} {it l : Addr} {k : Nat} {xs : Array Value} (t : Sit b h it l k xs) : Ti b h it l k := by
  cases b with
  | true => exact t.1
  | false => exact t.1
theorem turn3 {P : Program} {w : World} {K : PySem.W.Frag} {nm : Str} {np : Pos} {b : Bool} {N l1 l2 l3 : Nat} (p1 : l1 < N) (p2 : l2 < N) (p3 : l3 < N) :
    Turn P w K (.Name nm np) (It3 K b l1 l2 l3) (cells N) (N + 5) (fun i h => Tn b N l1 l2 l3 i h) where
  mem := by simp [cells]
  obj := fun i h st c hc => by
    obtain ⟨⟨v, f, hz, _⟩, hti, ⟨a1, a2, a3, hto⟩, t1, t2, t3⟩ := st
    rcases mem_cells.mp hc with e | e | e | e | e | e
    · rw [e]; exact ⟨_, hz, fun v q => nomatch q⟩
    · rw [e]; exact ⟨_, hti, fun v q => nomatch q⟩
    · rw [e]; exact ⟨_, hto, fun v q => nomatch q⟩
    · rw [e]; exact t1.obj
    · rw [e]; exact t2.obj
    · rw [e]; exact t3.obj
  keep := fun i h h' st k => by
    obtain ⟨⟨v, f, hz, ho⟩, hti, ⟨a1, a2, a3, hto⟩, t1, t2, t3⟩ := st
    exact ⟨⟨v, f, k _ (mem_cells.mpr (.inl rfl)) _ hz, ho⟩, k _ (mem_cells.mpr (.inr (.inl rfl))) _ hti, ⟨a1, a2, a3, k _ (mem_cells.mpr (.inr (.inr (.inl rfl)))) _ hto⟩,
      t1.on fun o q => k _ (mem_cells.mpr (.inr (.inr (.inr (.inl rfl))))) o q, t2.on fun o q => k _ (mem_cells.mpr (.inr (.inr (.inr (.inr (.inl rfl)))))) o q, t3.on fun o q => k _ (mem_cells.mpr (.inr (.inr (.inr (.inr (.inr rfl)))))) o q⟩
  item := by
    intro X hP hw hK hc i pins s σ H E I hf st hg
    subst hP hw hK
    obtain ⟨xs, ys, zs, x, y, u, hqx, hqy, hqz, hx, hy, hu⟩ := hg
    obtain ⟨is1, rv1, _, f1⟩ := sq_get I hqx
    obtain ⟨is2, rv2, _, f2⟩ := sq_get I hqy
    obtain ⟨is3, rv3, _, f3⟩ := sq_get I hqz
    obtain ⟨x', hx', rx⟩ := rv1.get hx
    obtain ⟨y', hy', ry⟩ := rv2.get hy
    obtain ⟨u', hu', ru⟩ := rv3.get hu
    have at' : At b s.heap N l1 l2 l3 i is1.toArray is2.toArray is3.toArray := ⟨st.z, st.ti, st.to, f1 _ _ st.i1, f2 _ _ st.i2, f3 _ _ st.i3⟩
    have hzl : N + 5 < s.heap.objs.size := by obtain ⟨v, f, hz, _⟩ := st.z; exact Heap.lt_size hz
    refine next_item at' p1 p2 p3 (x := x') (y := y') (u := u') (by simpa using hx') (by simpa using hy') (by simpa using hu') fun h' at2 hT hsz far => ⟨_, rfl, ?_⟩
    show wpAny _ _ (pure ()) _ _ _
    have new : ObjOk X.prog X.w (upd H s.heap.objs.size (.tup [x, y, u])) h' s.heap.objs.size (.tup [x, y, u]) :=
      ⟨by show 3 ≤ sizeLine; decide, [x', y', u'], .cons rx (.cons ry (.cons ru .nil)), ⟨_, hT, rfl, _, rfl⟩⟩
    have I1 : Inv X pins σ (upd H s.heap.objs.size (.tup [x, y, u])) { s with heap := h' } :=
      I.turnedNew (t' := s.toks) (ch := cells N) (fun c o hb e => far c o (far_cells hb) e) hf (Nat.le_refl _) new
    refine wpAny_pure ⟨.ref s.heap.objs.size, _, I1, rfl, ⟨_, x, y, u, rfl, I.hok.fresh (Nat.le_refl _), rfl, fun l hl => by rw [sq_inj I hl hqx]; exact hx, fun l hl => by rw [sq_inj I hl hqy]; exact hy, fun l hl => by rw [sq_inj I hl hqz]; exact hu⟩, ⟨at2.z, at2.ti, at2.to, at2.i1.ti, at2.i2.ti, at2.i3.ti⟩, fun c hcm => ?_⟩
    have hlt : c < s.heap.objs.size := by
      have hle : c ≤ N + 5 := by rcases mem_cells.mp hcm with e | e | e | e | e | e <;> rw [e] <;> first | exact Nat.le_refl _ | exact Nat.le_add_right _ _ | exact Nat.add_le_add_left (by decide) _
      exact Nat.lt_of_le_of_lt hle hzl
    rw [upd_ne (Nat.ne_of_lt hlt)]
    exact (hf c hcm).1
  done := by
    intro X hP hw hK hc i pins s σ H E I hf st hg
    subst hP hw hK
    obtain ⟨xs, ys, zs, hqx, hqy, hqz, hend⟩ := hg
    obtain ⟨is1, rv1, _, f1⟩ := sq_get I hqx
    obtain ⟨is2, rv2, _, f2⟩ := sq_get I hqy
    obtain ⟨is3, rv3, _, f3⟩ := sq_get I hqz
    have n1 := rv1.length
    have n2 := rv2.length
    have n3 := rv3.length
    have at' : At b s.heap N l1 l2 l3 i is1.toArray is2.toArray is3.toArray := ⟨st.z, st.ti, st.to, f1 _ _ st.i1, f2 _ _ st.i2, f3 _ _ st.i3⟩
    refine next_end (I.ok.hd hc) at' p1 p2 p3 ?_ fun h' far => ⟨rfl, I.turnedL (t' := s.toks) (ch := cells N) (fun c o hb e => far c o (far_cells hb) e) hf⟩
    rcases hend with e | e | e
    · exact .inl (by simp; omega)
    · exact .inr (.inl (by simp; omega))
    · exact .inr (.inr (by simp; omega))
  self := fun A i s Q E st h => by
    obtain ⟨v, f, hz, _⟩ := st.z
    have ty : s.TypeIs (.ref (N + 5)) "zip" := ⟨_, hz, rfl⟩
    refine wpAny_pyIter_slot ty F.slot_zip_iter (wpAny_call_entry F.slot_zip_iter ty F.entry_zip_iter ?_ (F.args_zip_iter_1 _))
    show wpAny _ _ (ret (.ref (N + 5))) _ _ s
    exact wpAny_pure ⟨_, rfl, "zip", _, ty, F.slot_zip_next.lookup, h⟩
def iZip3 (K : PySem.W.Frag) (ta : TA) : TI := fun σ H R => ta σ H fun vs H1 => ∃ b l1 l2 l3 xs ys zs, vs = [.ref l1, .ref l2, .ref l3] ∧ Sq K b H1 l1 xs ∧ Sq K b H1 l2 ys ∧ Sq K b H1 l3 zs ∧ R (It3 K b l1 l2 l3) H1
def itO : Bool → Addr → Obj
  | true, l => { cls := .type "list_iterator", data := .fields #[.ref l, .int 0 0] }
  | false, l => { cls := .type "tuple_iterator", data := .fields #[.ref l, .int 0 0] }
def isSeq : Bool → Heap → Addr → Array Value → Prop
  | true, h, l, xs => h.IsList l xs
  | false, h, l, xs => h.IsTuple l xs
theorem begins (b : Bool) (l : Addr) (xs : Array Value) : Begins (.ref l) (itO b l) fun h => isSeq b h l xs := by
  cases b with
  | true => exact begins_list l xs
  | false => exact begins_tuple l xs
theorem ti_of {b : Bool} {h : Heap} {it l : Addr} (e : h.get? it = some (itO b l)) : Ti b h it l 0 := by
  cases b with
  | true => exact ⟨_, e, rfl, rfl⟩
  | false => exact ⟨_, e, rfl, rfl⟩
theorem sq_seq {X : Cx} {pins : List (Addr × Obj)} {s : Shared} {σ : L2.St} {H : Hp} (I : Inv X pins σ H s) {b : Bool} {l : Addr} {xs : List V} (h : Sq X.K b H l xs) : ∃ its, isSeq b s.heap l its ∧ l < s.heap.objs.size := by
  cases b with
  | true =>
    obtain ⟨its, rv, p, _⟩ := I.list h
    exact ⟨_, p.isList, p.lt⟩
  | false =>
    obtain ⟨its, rv, p, _⟩ := I.tuple h
    obtain ⟨o, ho, _⟩ := id p
    exact ⟨_, p, Heap.lt_size ho⟩
theorem pi_zip3 {X : Cx} {e e2 e3 : Expr} {ta : TA} {p pos np : Pos} {nm : Str} (hg : Gl X "zip") (hm : X.mg "zip" = none) (ha : PA X [e, e2, e3] ta)
    (hs : starEach [e, e2, e3] X.env = (false, eval e X.env) :: starEach [e2, e3] X.env) (hpl : (backTo pos (starEach [e2, e3] X.env)).any (·.1) = false) :
    PI X (.Name nm np) (.Call (.Name "zip" p) [e, e2, e3] [] pos) (iZip3 X.K ta) := by
  refine ⟨fun pins s σ H R I h => Call_ (ld_blt I hg hm PyProof.Rows.boot_zip (PyProof.Rows.callWith_type1 (thn (ha.run pos pins s σ H _ I h) fun us s1 ⟨vs, H1, I1, r1, q1⟩ => ?_) hs hpl))⟩
  obtain ⟨b, l1, l2, l3, xs, ys, zs, ex, h1, h2, h3, q⟩ := q1
  subst ex
  cases r1 with
  | cons k1 rr =>
    cases rr with
    | cons k2 rr =>
      cases rr with
      | cons k3 rr =>
        cases rr
        cases k1
        cases k2
        cases k3
        obtain ⟨c1, g1, p1⟩ := sq_seq I1 h1
        obtain ⟨c2, g2, p2⟩ := sq_seq I1 h2
        obtain ⟨c3, g3, p3⟩ := sq_seq I1 h3
        refine zip_begins3 (begins b l1 c1) (begins b l2 c2) (begins b l3 c3) g1 g2 g3 fun h' hz hti hto e1 e2 e3 hsz hk => wpAny_pyIter_zip hz ?_
        have I2 : Inv X pins σ H1 { s1 with heap := h' } := I1.kept (t' := s1.toks) hk
        have tn : Tn b s1.heap.objs.size l1 l2 l3 0 h' := ⟨⟨_, _, hz, .inl rfl⟩, hti, ⟨_, _, _, hto⟩, ti_of e1, ti_of e2, ti_of e3⟩
        have fp : ∀ c ∈ cells s1.heap.objs.size, FpOk X pins H1 c := fun c hcm => by
          have hle : s1.heap.objs.size ≤ c := by
            rcases mem_cells.mp hcm with e | e | e | e | e | e <;> rw [e] <;> first | exact Nat.le_refl _ | exact Nat.le_add_right _ _
          exact I1.fpOk hle (I1.hok.fresh hle)
        exact ⟨s1.heap.objs.size + 5, cells s1.heap.objs.size, fun i h => Tn b s1.heap.objs.size l1 l2 l3 i h, It3 X.K b l1 l2 l3, H1, rfl, I2, turn3 p1 p2 p3, tn, fp, q⟩
end Z3
namespace Dl
open PySem PySem.Spec L2 Z3
open PyProof.Rows hiding St
theorem zip3_get : ∀ (xs ys zs : List D) (i : Nat), (C.zipD3 xs ys zs)[i]? = match xs[i]?, ys[i]?, zs[i]? with | some x, some y, some z => some (.tuple [x, y, z]) | _, _, _ => none
  | [], _, _, _ => by simp [C.zipD3]
  | _ :: _, [], _, i => by cases i <;> simp [C.zipD3]
  | _ :: _, _ :: _, [], i => by cases i <;> simp [C.zipD3]
  | x :: xs, y :: ys, z :: zs, 0 => by simp [C.zipD3]
  | x :: xs, y :: ys, z :: zs, i + 1 => by
    show (C.zipD3 xs ys zs)[i]? = _
    rw [zip3_get xs ys zs i]
    simp
def Dd (K : PySem.W.Frag) (H : Hp) (b : Bool) (p : Addr) (ds : List D) : Prop := match b with | true => Dp K H (.ref p) (.list ds) | false => Dp K H (.ref p) (.tuple ds)
theorem dd_sq {K : PySem.W.Frag} {V0 H : Hp} {b : Bool} {p : Addr} {ds : List D} (h : Dd K V0 b p ds) (s : Sub V0 H) : ∃ xs, Sq K b H p xs ∧ DpAll K V0 xs ds := by
  cases b with
  | true =>
    obtain ⟨p', xs, e, sx, ax⟩ := dp_list h
    cases e
    exact ⟨xs, sqL_sub s sx, ax⟩
  | false =>
    obtain ⟨p', xs, e, sx, ax⟩ := dp_tup h
    cases e
    exact ⟨xs, sqT_sub s sx, ax⟩
section
variable {X : Cx} {K : PySem.W.Frag} {V0 : Hp} {pn : List Nat} {a b d : Expr} {fa fb fd : EV} {pos : Pos}
theorem wk_zip3 {t : Bool} {p p2 p3 : Addr} {ds es fs : List D} (h : Dd K V0 t p ds) (h2 : Dd K V0 t p2 es) (h3 : Dd K V0 t p3 fs) : Wk K (It3 K t p p2 p3) V0 (C.zipD3 ds es fs) := fun W H w s i => by
  have sub : Sub V0 H := s.trans hid_le
  obtain ⟨xs, sx, ax⟩ := dd_sq h sub
  obtain ⟨ys, sy, ay⟩ := dd_sq h2 sub
  obtain ⟨zs, sz, az⟩ := dd_sq h3 sub
  rw [zip3_get]
  refine ⟨fun d hd => ?_, fun hd => ⟨xs, ys, zs, sx, sy, sz, ?_⟩⟩
  · split at hd
    · rename_i x0 y0 z0 e1 e2 e3
      cases hd
      obtain ⟨v, hv, rv⟩ := DpAll.get ax e1
      obtain ⟨u, hu, ru⟩ := DpAll.get ay e2
      obtain ⟨z, hz, rz⟩ := DpAll.get az e3
      refine ⟨⟨xs, ys, zs, v, u, z, sx, sy, sz, hv, hu, hz⟩, fun x H' ⟨T, y1, y2, y3, q1, q2, q3, q4, q5, q6⟩ => ?_⟩
      subst q1 q3
      have g1 := q4 xs sx
      rw [hv] at g1
      cases g1
      have g1 := q5 ys sy
      rw [hu] at g1
      cases g1
      have g1 := q6 zs sz
      rw [hz] at g1
      cases g1
      exact new_tup w q2 (.cons (dp_sub s _ _ rv) (.cons (dp_sub s _ _ ru) (.cons (dp_sub s _ _ rz) .nil)))
    · cases hd
  · rw [DpAll.length ax, DpAll.length ay, DpAll.length az]
    cases e1 : ds[i]? with
    | none => exact .inl (List.getElem?_eq_none_iff.mp e1)
    | some x =>
      cases e2 : es[i]? with
      | none => exact .inr (.inl (List.getElem?_eq_none_iff.mp e2))
      | some y =>
        cases e3 : fs[i]? with
        | none => exact .inr (.inr (List.getElem?_eq_none_iff.mp e3))
        | some z => rw [e1, e2, e3] at hd; cases hd
theorem di_zip3 {x nm : Str} {p np : Pos} (hg : Gl X x ∧ X.mg x = none ∧ (x == ("__debug__" : Str)) = false ∧ x ≠ "__name__") (hx : x = "zip") (hn : noStar a = true) (hm : noStar b = true) (hk : noStar d = true) (ha : DE X pn a false fa) (hb : DE X pn b false fb) (hd : DE X pn d false fd) : DI X pn (.Name nm np) (.Call (.Name x p) [a, b, d] [] pos) (C.zip3 fa fb fd) := fun P ρ σ H ds ρ' R g er ef q => by
  subst hx
  unfold C.zip3 at ef
  split at ef
  · rename_i x ρ1 e1
    split at ef
    · rename_i y ρ2 e2
      split at ef
      · rename_i z ρ3 e3
        have key : ∀ (t : Bool) (xs ys zs : List D), (match t with | true => x = .list xs ∧ y = .list ys ∧ z = .list zs | false => x = .tuple xs ∧ y = .tuple ys ∧ z = .tuple zs) → C.zipD3 xs ys zs = ds → ρ3 = ρ' → WI X (.Name nm np) (.Call (.Name "zip" p) [a, b, d] [] pos) σ H R := fun t xs ys zs ht hz hr => by
          subst hz hr
          refine WI.of (pi_zip3 hg.1 hg.2.1 pa_wa (star_cons hn) (nostar_any (by rw [List.all_cons, List.all_cons, hm, hk]; rfl))) (WA.of (pa_cons pe_we (pa_cons pe_we (pa_cons pe_we pa_nil (star_cons hk)) (star_cons hm)) (star_cons hn)) (ha P ρ σ H x ρ1 _ g er e1 fun v H1 o => hb P ρ1 σ H1 y ρ2 _ g o.nx.er e2 fun w H2 o2 => hd P ρ2 σ H2 z ρ3 _ g o2.nx.er e3 fun u H3 o3 => ?_))
          have n3 := (o.nx.trans o2.nx).trans o3.nx
          have d1 := o3.nx.keep (o2.nx.keep o.dp)
          have d2 := o3.nx.keep o2.dp
          have d3 := o3.dp
          cases t with
          | true =>
            obtain ⟨rfl, rfl, rfl⟩ := ht
            obtain ⟨l1, _, rfl, s1, _⟩ := dp_list d1
            obtain ⟨l2, _, rfl, s2, _⟩ := dp_list d2
            obtain ⟨l3, _, rfl, s3, _⟩ := dp_list d3
            exact ⟨true, l1, l2, l3, _, _, _, rfl, sqL_sub hid_le s1, sqL_sub hid_le s2, sqL_sub hid_le s3, q _ _ n3 (wk_zip3 (t := true) d1 d2 d3)⟩
          | false =>
            obtain ⟨rfl, rfl, rfl⟩ := ht
            obtain ⟨l1, _, rfl, s1, _⟩ := dp_tup d1
            obtain ⟨l2, _, rfl, s2, _⟩ := dp_tup d2
            obtain ⟨l3, _, rfl, s3, _⟩ := dp_tup d3
            exact ⟨false, l1, l2, l3, _, _, _, rfl, sqT_sub hid_le s1, sqT_sub hid_le s2, sqT_sub hid_le s3, q _ _ n3 (wk_zip3 (t := false) d1 d2 d3)⟩
        split at ef
        · cases ef; exact key true _ _ _ ⟨rfl, rfl, rfl⟩ rfl rfl
        · cases ef; exact key false _ _ _ ⟨rfl, rfl, rfl⟩ rfl rfl
        · cases ef
      · cases ef
    · cases ef
  · cases ef
end
end Dl

set_option maxRecDepth 100000
set_option maxHeartbeats 2000000
/-! List comprehensions. -/
namespace Dl
open PySem PySem.Spec L2
open PyProof.Rows hiding St

def DTs (X : Cx) (pn : List Nat) (ifs : List Expr) (f : TV) : Prop := ∀ (P : Pm) (ρ : Rho) (σ : SSt) (H : Hp) (b : Bool) (ρ' : Rho) (Q : Bool → Hp → Prop), Good (tbX X) P pn → ER X.K P ρ σ H → f ρ = some (b, ρ') →
  (∀ H', Nx X.K P ρ σ H ρ' σ H' → Q b H') → WTs X ifs σ H Q
theorem WTs.of {X : Cx} {ifs : List Expr} {σ : SSt} {H : Hp} {t : TT} {Q : Bool → Hp → Prop} (h : PTs X ifs t) (q : t σ H Q) : WTs X ifs σ H Q := fun pins s I => h.run pins s σ H Q I q
theorem dts_nil {X : Cx} {pn : List Nat} : DTs X pn [] C.yes := fun P ρ σ H b ρ' Q g er ef q => by
  cases ef
  exact WTs.of pts_nil (q _ (Nx.refl er))
theorem dts_one {X : Cx} {pn : List Nat} {e : Expr} {t : TV} (h : DT X pn e t) : DTs X pn [e] t := fun P ρ σ H b ρ' Q g er ef q => WTs.of (pts_one pt_wt) (h P ρ σ H b ρ' _ g er ef q)
theorem dts_fail {X : Cx} {pn : List Nat} {ifs : List Expr} : DTs X pn ifs C.fail := fun P ρ σ H b ρ' Q g er ef q => by cases ef

/-! ### slots wiped and brought back -/
theorem wipe_get_ne {σ : SSt} {i : Nat} : ∀ {vs : List Nat}, i ∉ vs → (wipe σ vs)[i]? = σ[i]?
  | [], _ => rfl
  | v :: vs, h => by
    unfold wipe
    rw [get_set_ne (i := v) (j := i) fun z => h (by rw [← z]; exact List.mem_cons_self)]
    exact wipe_get_ne fun z => h (List.mem_cons_of_mem _ z)
theorem wipeR_len (ρ : Rho) : ∀ vs : List Nat, (C.wipeR ρ vs).length = ρ.length
  | [] => rfl
  | v :: vs => by unfold C.wipeR; rw [List.length_set, wipeR_len ρ vs]
theorem wipe_ext {σ σ' : SSt} (hl : σ'.length = σ.length) : ∀ {vs : List Nat}, (∀ i, i ∉ vs → σ'[i]? = σ[i]?) → wipe σ' vs = wipe σ vs := fun {vs} h => by
  apply List.ext_getElem?
  intro i
  by_cases hi : i ∈ vs
  · have : ∀ (τ : SSt) (vs : List Nat), i ∈ vs → i < τ.length → (wipe τ vs)[i]? = some none := fun τ vs => by
      induction vs with
      | nil => intro h; cases h
      | cons v vs ih =>
        intro hm hlt
        unfold wipe
        by_cases hv : v = i
        · subst hv
          exact get_set_self (by rw [wipe_length]; exact hlt)
        · rw [get_set_ne hv]
          exact ih (by
            rcases List.mem_cons.mp hm with z | z
            · exact absurd z.symm hv
            · exact z) hlt
    by_cases hlt : i < σ.length
    · rw [this σ vs hi hlt, this σ' vs hi (by omega)]
    · rw [List.getElem?_eq_none (by rw [wipe_length]; omega), List.getElem?_eq_none (by rw [wipe_length]; omega)]
  · rw [wipe_get_ne hi, wipe_get_ne hi, h i hi]
theorem nx_wipe {K : PySem.W.Frag} {P : Pm} {ρ : Rho} {σ : SSt} {H : Hp} (er : ER K P ρ σ H) : ∀ {vs : List Nat}, (∀ v ∈ vs, ∀ q ∈ P.pins, q.1 ≠ v) → Nx K P ρ σ H (C.wipeR ρ vs) (wipe σ vs) H
  | [], _ => Nx.refl er
  | v :: vs, h => by
    have n := nx_wipe er (vs := vs) fun w hw => h w (List.mem_cons_of_mem _ hw)
    exact n.trans (n.er.setUn (h v List.mem_cons_self))
theorem back_len (ρ ρ' : Rho) : ∀ vs : List Nat, (C.back ρ ρ' vs).length = ρ'.length
  | [] => rfl
  | v :: vs => by unfold C.back; rw [List.length_set, back_len ρ ρ' vs]
theorem back_ne {ρ ρ' : Rho} {i : Nat} : ∀ {vs : List Nat}, i ∉ vs → (C.back ρ ρ' vs)[i]? = ρ'[i]?
  | [], _ => rfl
  | v :: vs, h => by
    unfold C.back
    rw [get_set_ne (i := v) (j := i) fun z => h (by rw [← z]; exact List.mem_cons_self)]
    exact back_ne fun z => h (List.mem_cons_of_mem _ z)
theorem back_in {ρ ρ' : Rho} {i : Nat} : ∀ {vs : List Nat} {x : SV}, i ∈ vs → (C.back ρ ρ' vs)[i]? = some x → x = ρ.getD i .un
  | [], _, h, _ => by cases h
  | v :: vs, x, h, e => by
    unfold C.back at e
    by_cases hv : v = i
    · subst hv
      by_cases hl : v < (C.back ρ ρ' vs).length
      · rw [get_set_self hl] at e
        cases e
        rfl
      · rw [List.getElem?_eq_none (by rw [List.length_set]; omega)] at e
        cases e
    · rw [get_set_ne hv] at e
      exact back_in (by
        rcases List.mem_cons.mp h with z | z
        · exact absurd z.symm hv
        · exact z) e
section
variable {K : PySem.W.Frag} {P : Pm} {ρ1 ρ2 : Rho} {σ : SSt} {H1 H : Hp} {vs : List Nat}
theorem notOwn_no {x : SV} (h : C.notOwn (some x) = true) (hx : x.isO) : False := by
  cases x with
  | own _ => cases h
  | tab _ => cases h
  | un => exact hx
  | val _ => exact hx
theorem own_back (hn : ∀ v ∈ vs, C.notOwn ρ1[v]? = true) {p : Addr} (h : Own (C.back ρ1 ρ2 vs) σ p) : Own ρ2 (wipe σ vs) p := by
  obtain ⟨i, x, h1, hx, h2⟩ := h
  by_cases hi : i ∈ vs
  · have e := back_in hi h1
    have hn := hn i hi
    rw [List.getD_eq_getElem?_getD] at e
    cases q : ρ1[i]? with
    | none => rw [q] at e; subst e; exact hx.elim
    | some y =>
      rw [q] at e hn
      have e : x = y := e
      subst e
      exact (notOwn_no hn hx).elim
  · rw [back_ne hi] at h1
    exact ⟨i, x, h1, hx, by rw [wipe_get_ne hi]; exact h2⟩
theorem er_back (hn : ∀ v ∈ vs, C.notOwn ρ1[v]? = true) (hp : ∀ v ∈ vs, ∀ q ∈ P.pins, q.1 ≠ v) (e1 : ER K P ρ1 σ H1) (s : Sub (hid (Wr P ρ1 σ) H1) (hid (Wr P (C.back ρ1 ρ2 vs) σ) H)) (e2 : ER K P ρ2 (wipe σ vs) H) : ER K P (C.back ρ1 ρ2 vs) σ H := by
  have mono : Sub (hid (Wr P ρ2 (wipe σ vs)) H) (hid (Wr P (C.back ρ1 ρ2 vs) σ) H) := hid_mono (wr_le fun p h => own_back hn h)
  have nov : ∀ {i : Nat} {x : SV}, (C.back ρ1 ρ2 vs)[i]? = some x → x.isO → i ∉ vs ∧ ρ2[i]? = some x := fun {i x} h hx => by
    by_cases hi : i ∈ vs
    · have e := back_in hi h
      have hn := hn i hi
      rw [List.getD_eq_getElem?_getD] at e
      cases q : ρ1[i]? with
      | none => rw [q] at e; subst e; exact hx.elim
      | some y =>
        rw [q] at e hn
        have e : x = y := e
        subst e
        exact (notOwn_no hn hx).elim
    · rw [back_ne hi] at h
      exact ⟨hi, h⟩
  refine ⟨by rw [back_len, e2.len, wipe_length], fun i d h => ?_, fun i x h hx => ?_, fun i j x y a h1 hx h2 hy h3 h4 => ?_, e2.w0, e2.hist, e2.dom, e1.pin, fun i x a h1 hx h2 h3 => ?_⟩
  · by_cases hi : i ∈ vs
    · have e := back_in hi h
      rw [List.getD_eq_getElem?_getD] at e
      cases q : ρ1[i]? with
      | none => rw [q] at e; cases e
      | some y =>
        rw [q] at e
        have e : SV.val d = y := e
        subst e
        obtain ⟨v, r1, r2⟩ := e1.val i d q
        exact ⟨v, r1, dp_sub s _ _ r2⟩
    · rw [back_ne hi] at h
      obtain ⟨v, r1, r2⟩ := e2.val i d h
      rw [wipe_get_ne hi] at r1
      exact ⟨v, r1, dp_sub mono _ _ r2⟩
  · obtain ⟨hi, h⟩ := nov h hx
    obtain ⟨a, r1, r2, r3⟩ := e2.obj i x h hx
    rw [wipe_get_ne hi] at r1
    exact ⟨a, r1, r2, r3.mono mono fun _ z => z⟩
  · obtain ⟨hi, h1⟩ := nov h1 hx
    obtain ⟨hj, h2⟩ := nov h2 hy
    exact e2.sep i j x y a h1 hx h2 hy (by rw [wipe_get_ne hi]; exact h3) (by rw [wipe_get_ne hj]; exact h4)
  · obtain ⟨hi, h1⟩ := nov h1 hx
    exact e2.nw i x a h1 hx (by rw [wipe_get_ne hi]; exact h2) h3
/-- an avoided list that is nobody's own has other items -/
theorem er_wrAt {a : Addr} {us : List V} {ρ : Rho} {τ : SSt} (e : ER K P ρ τ H) (hw : P.W0 a) (no : ¬ Own ρ τ a) (cp : P.C a) : ER K P ρ τ (upd H a (.lst us)) := by
  have s : ∀ p o, H p = some o → p ≠ a → upd H a (.lst us) p = some o := fun p o hp hne => by rw [upd_ne hne]; exact hp
  have dom : ∀ p, upd H a (.lst us) p = none → H p = none := fun p h => by
    by_cases z : p = a
    · subst z; rw [upd_same] at h; cases h
    · rw [upd_ne z] at h; exact h
  have hs : Sub (hid (Wr P ρ τ) H) (hid (Wr P ρ τ) (upd H a (.lst us))) := hid_but (.inl hw) s
  refine ⟨e.len, fun i d h => ?_, fun i x h hx => ?_, e.sep, fun p w z => e.w0 p w (dom p z), fun p o h n => s p o (e.hist p o h n) fun z => n (z ▸ cp), fun p h => e.dom p (dom p h), e.pin, e.nw⟩
  · obtain ⟨v, r1, r2⟩ := e.val i d h
    exact ⟨v, r1, dp_sub hs _ _ r2⟩
  · obtain ⟨b, r1, r2, r3⟩ := e.obj i x h hx
    exact ⟨b, r1, r2, r3.mono hs fun o w => s b o w fun z => no (z ▸ ⟨i, x, h, hx, r1⟩)⟩
end
theorem turn_cases {g : GV} {t : TV} {e : EV} {d : D} {ρ ρ' : Rho} {o : Option D} (h : C.lcTurn g t e d ρ = some (o, ρ')) : ∃ ρ1 b ρ2, g d ρ = some ρ1 ∧ t ρ1 = some (b, ρ2) ∧ ((b = true ∧ ∃ y, e ρ2 = some (y, ρ') ∧ o = some y) ∨ (b = false ∧ o = none ∧ ρ' = ρ2)) := by
  unfold C.lcTurn at h
  split at h
  · rename_i ρ1 e1
    split at h
    · rename_i ρ2 e2
      obtain ⟨p, e3, e4⟩ := Option.map_eq_some_iff.mp h
      cases e4
      exact ⟨ρ1, true, ρ2, e1, e2, .inl ⟨rfl, p.1, e3, rfl⟩⟩
    · rename_i ρ2 e2
      cases h
      exact ⟨ρ1, false, _, e1, e2, .inr ⟨rfl, rfl, rfl⟩⟩
    · cases h
  · cases h
section
variable {X : Cx} {pn : List Nat} {elt tg it : Expr} {ifs : List Expr} {scope : Scope} {own : List (Str × Nat)} {fr : Bool} {pos : Pos} {fi : AV} {gv : GV} {tv : TV} {fe : EV}
abbrev BX (X : Cx) (scope : Scope) (s : Shared) (H : Hp) (C : Addr) (cl : List (Str × Addr)) (fp : List Addr) : Cx := X.blk s H scope (compEnvC scope cl C X.env) fp
def uG (X : Cx) (scope : Scope) (tg : Expr) : TG := fun v σ H Q => ∀ s0 H0 C cl fp, WG (BX X scope s0 H0 C cl fp) tg v σ H Q
def uT (X : Cx) (scope : Scope) (ifs : List Expr) : TT := fun σ H Q => ∀ s0 H0 C cl fp, WTs (BX X scope s0 H0 C cl fp) ifs σ H Q
def uE (X : Cx) (scope : Scope) (elt : Expr) : TE := fun σ H Q => ∀ s0 H0 C cl fp, WE (BX X scope s0 H0 C cl fp) elt σ H Q
/-- the loop's invariant -/
structure LI (K : PySem.W.Frag) (P : Pm) (ρ0 : Rho) (τ : SSt) (H1 : Hp) (D0 : Addr) (vs : List Nat) (turn : D → Rho → Option (Option D × Rho)) (ds : List D) (ys : List D) (ρf : Rho) (i : Nat) (m : Nat) (H : Hp) : Prop where
  ex : ∃ (acc : List D) (ρ2 : Rho) (us : List V), Nx K P ρ0 τ H1 ρ2 τ H ∧ ER K (P.av D0) ρ2 τ H ∧ H D0 = some (.lst us) ∧ DpAll K (hid (Wr (P.av D0) ρ2 τ) H) us acc ∧ C.lcLoop vs turn (ds.drop i) acc ρ2 = some (ys, ρf)
  m : m + i = ds.length
theorem own_un {K : PySem.W.Frag} {P : Pm} {ρ : Rho} {σ : SSt} {H : Hp} (e : ER K P ρ σ H) {p : Addr} (h : H p = none) : ¬ Own ρ σ p := fun w => by
  obtain ⟨us, z⟩ := e.own_some w
  rw [h] at z; cases z
theorem de_lc (hc : X.calm = true) (hN : X.N.Nodup) (ok : BlkOk X.N X.env.scope scope own) (hpn : ∀ p ∈ own, pn.contains p.2 = false) (hset : isSetD it = false) (hi : DI X pn tg it fi)
    (hg : ∀ s0 H0 C cl fp, DG (BX X scope s0 H0 C cl fp) pn (some (own.map (·.2))) tg gv) (ht : ∀ s0 H0 C cl fp, DTs (BX X scope s0 H0 C cl fp) pn ifs tv) (he : ∀ s0 H0 C cl fp, DE (BX X scope s0 H0 C cl fp) pn elt false fe)
    (P : Pm) (ρ : Rho) (σ : SSt) (H : Hp) (d : D) (ρ' : Rho) (Q : VK) (g : Good (tbX X) P pn) (er : ER X.K P ρ σ H) (ef : C.lc (own.map (·.2)) fi gv tv fe ρ = some (d, ρ')) (q : ∀ v H', Out fr X.K P ρ σ H ρ' H' v d → Q v H') :
    tLc (WI X tg it) (uG X scope tg) (uT X scope ifs) (uE X scope elt) (own.map (·.2)) σ H Q := by
  unfold C.lc at ef
  split at ef
  · rename_i ds ρ1 e1
    split at ef
    · rename_i e2
      split at ef
      · rename_i ys ρf e3
        cases ef
        have hnv : ∀ v ∈ own.map (·.2), C.notOwn ρ1[v]? = true := fun v hv => List.all_eq_true.mp e2 v hv
        have hpv : ∀ v ∈ own.map (·.2), ∀ q ∈ P.pins, q.1 ≠ v := fun v hv => by
          obtain ⟨p, hp, rfl⟩ := List.mem_map.mp hv
          exact g.free (hpn p hp)
        generalize own.map (·.2) = vs at *
        refine hi P ρ σ H ds ρ1 _ g er e1 fun J H1 n1 wk => fun D0 hD => ?_
        have er1 := n1.er
        have nw := nx_wipe er1 hpv
        have sD : Sub H1 (upd H1 D0 (.lst [])) := Sub.upd hD
        have hD' : upd H1 D0 (.lst []) D0 ≠ none := by rw [upd_same]; exact fun z => by cases z
        have hC : P.C D0 := g.ok.fresh D0 (er1.dom D0 hD)
        have gav : Good (tbX X) (P.av D0) pn := ⟨g.ok.av, g.pin, g.tb⟩
        refine ⟨LI X.K P (C.wipeR ρ1 vs) (wipe σ vs) H1 D0 vs (C.lcTurn gv tv fe) ds ys ρf, ⟨ds.length, ⟨[], C.wipeR ρ1 vs, [], nw.er.ext sD, nw.er.av hD sD hD', upd_same, .nil, e3⟩, rfl⟩, fun i m H2 ⟨⟨acc, ρ2, us, N, eav, hl, hr, hlp⟩, hm⟩ => ?_⟩
        have nD : ¬ Own ρ2 (wipe σ vs) D0 := Fr.nown g.ok er1 eav hD
        have vis : Sub (hid (Wr P ρ1 σ) H1) (hid (Wr (P.av D0) ρ2 (wipe σ vs)) H2) := fun p o hpo => by
          obtain ⟨h1, h2⟩ := hid_some.mp (N.sub p o (nw.sub p o hpo))
          refine hid_some.mpr ⟨fun w => ?_, h2⟩
          rcases w with (w | w) | w
          · exact h1 (.inl w)
          · have := (hid_some.mp hpo).2
            rw [w, hD] at this; cases this
          · exact h1 (.inr w)
        obtain ⟨wk1, wk2⟩ := wk _ H2 eav.wok vis i
        cases hd : ds[i]? with
        | none =>
          refine .inl ⟨wk2 hd, ?_⟩
          have hil := List.getElem?_eq_none_iff.mp hd
          rw [List.drop_eq_nil_of_le hil] at hlp
          cases hlp
          -- the end: back to the slots as they were
          have ownb : ∀ {p : Addr}, Own (C.back ρ1 ρf vs) σ p → Own ρf (wipe σ vs) p := fun h => own_back hnv h
          have nDb : ¬ Own (C.back ρ1 ρf vs) σ D0 := fun w => nD (ownb w)
          have visb : Sub (hid (Wr P ρ1 σ) H1) (hid (Wr (P.av D0) (C.back ρ1 ρf vs) σ) H2) := vis.trans (hid_mono (wr_le fun p h => ownb h))
          have e1av : ER X.K (P.av D0) ρ1 σ (upd H1 D0 (.lst [])) := er1.av hD sD hD'
          have sav : Sub (hid (Wr (P.av D0) ρ1 σ) (upd H1 D0 (.lst []))) (hid (Wr (P.av D0) (C.back ρ1 ρf vs) σ) H2) := fun p o hpo => by
            obtain ⟨h1, h2⟩ := hid_some.mp hpo
            have hne : p ≠ D0 := fun z => h1 (.inl (.inr z))
            rw [upd_ne hne] at h2
            exact visb p o (hid_some.mpr ⟨fun w => h1 (w.elim (fun z => .inl (.inl z)) .inr), h2⟩)
          have ebav : ER X.K (P.av D0) (C.back ρ1 ρf vs) σ H2 := er_back hnv hpv e1av sav eav
          have hrb : DpAll X.K (hid (Wr (P.av D0) (C.back ρ1 ρf vs) σ) H2) us ys := dpAll_sub (hid_mono (wr_le fun p h => ownb h)) _ _ hr
          have nb : Nx X.K P ρ1 σ H1 (C.back ρ1 ρf vs) σ H2 := ⟨ebav.unav, fun p h => by
              rcases N.own p (ownb h) with z | z
              · rcases nw.own p z with z | z
                · exact .inl z
                · exact .inr z
              · exact .inr z, fun p o hp no => N.ev p o hp fun w => (nw.own p w).elim (fun z => no z) fun z => (by rw [hp] at z; cases z), N.dom⟩
          refine q _ _ ⟨n1.trans nb, ?_, fun _ es ee => ?_⟩
          · refine .lst (.inl (.inl (hid_some.mpr ⟨fun w => ?_, hl⟩))) (dpAll_sub (hid_mono fun p w => w.elim (fun z => .inl (.inl z)) .inr) _ _ hrb)
            rcases w with w | w
            · exact er1.w0 D0 w hD
            · exact nDb w
          · cases ee
            exact ⟨D0, us, rfl, n1.dom D0 hD, hl, ebav, hrb⟩
        | some d =>
          have hil : i < ds.length := (List.getElem?_eq_some_iff.mp hd).1
          have hdrop : ds.drop i = d :: ds.drop (i + 1) := by
            rw [List.drop_eq_getElem_cons hil]
            have := List.getElem?_eq_getElem hil
            rw [hd] at this
            rw [← Option.some.inj this]
          rw [hdrop] at hlp
          obtain ⟨go, yl⟩ := wk1 d hd
          refine .inr ⟨go, LI X.K P (C.wipeR ρ1 vs) (wipe σ vs) H1 D0 vs (C.lcTurn gv tv fe) ds ys ρf (i + 1) (m - 1), fun H' h => ⟨m - 1, by omega, h⟩, fun x H3 hy => ?_⟩
          obtain ⟨s3, hx⟩ := yl x H3 hy
          have n3 : Nx X.K (P.av D0) ρ2 (wipe σ vs) H2 ρ2 (wipe σ vs) H3 := eav.ext s3
          -- the turn
          have turn : ∃ o ρ5, C.lcTurn gv tv fe d ρ2 = some (o, ρ5) ∧ (match o with | some y => acc.length < line ∧ C.lcLoop vs (C.lcTurn gv tv fe) (ds.drop (i + 1)) (acc ++ [y]) (C.wipeR ρ5 vs) = some (ys, ρf) | none => C.lcLoop vs (C.lcTurn gv tv fe) (ds.drop (i + 1)) acc (C.wipeR ρ5 vs) = some (ys, ρf)) := by
            unfold C.lcLoop at hlp
            split at hlp
            · rename_i y ρ5 e5
              split at hlp
              · rename_i e6
                exact ⟨some y, ρ5, e5, of_decide_eq_true e6, hlp⟩
              · cases hlp
            · rename_i ρ5 e5
              exact ⟨none, ρ5, e5, hlp⟩
            · cases hlp
          obtain ⟨o, ρ5, e5, e6⟩ := turn
          obtain ⟨ρ3, b, ρ4, t1, t2, t3⟩ := turn_cases e5
          intro s0 H0 C0 cl fp
          refine hg s0 H0 C0 cl fp (P.av D0) ρ2 (wipe σ vs) H3 x d ρ3 _ gav n3.er (show Dp X.K _ _ _ from hx) t1 fun σ2 n4 on => ?_
          have n4 : Nx X.K (P.av D0) ρ2 (wipe σ vs) H3 ρ3 σ2 H3 := n4
          have wp : wipe σ2 vs = wipe σ vs := by
            obtain ⟨l1, l2⟩ := on vs rfl
            refine wipe_ext (by rw [l1, wipe_length]) fun j hj => ?_
            rw [l2 j hj, wipe_get_ne hj]
          refine ⟨wp, fun s0 H0 C0 cl fp => ht s0 H0 C0 cl fp (P.av D0) ρ3 σ2 H3 b ρ4 _ gav n4.er t2 fun H4 n5 => ?_⟩
          have n5 : Nx X.K (P.av D0) ρ3 σ2 H3 ρ4 σ2 H4 := n5
          -- what a turn leaves
          have mk : ∀ (ρ5 : Rho) (H5 H6 : Hp) (us'' : List V) (acc'' : List D), Nx X.K (P.av D0) ρ2 (wipe σ vs) H2 ρ5 σ2 H5 → (∀ p, p ≠ D0 → H6 p = H5 p) → H6 D0 = some (.lst us'') → ER X.K (P.av D0) ρ5 σ2 H6 → DpAll X.K (hid (Wr (P.av D0) ρ5 σ2) H6) us'' acc'' →
              C.lcLoop vs (C.lcTurn gv tv fe) (ds.drop (i + 1)) acc'' (C.wipeR ρ5 vs) = some (ys, ρf) → LI X.K P (C.wipeR ρ1 vs) (wipe σ vs) H1 D0 vs (C.lcTurn gv tv fe) ds ys ρf (i + 1) (m - 1) H6 := by
            intro ρ5 H5 H6 us'' acc'' n6 hsame hD6 e6 r6 hl6
            have nw6 := nx_wipe (vs := vs) e6 hpv
            rw [wp] at nw6
            refine ⟨⟨acc'', C.wipeR ρ5 vs, us'', ⟨nw6.er.unav, fun p h => ?_, fun p o hp no => ?_, fun p h => ?_⟩, nw6.er, hD6, dpAll_sub nw6.sub _ _ r6, hl6⟩, by omega⟩
            · rcases nw6.own p h with z | z
              · rcases n6.own p z with z | z
                · exact N.own p z
                · exact .inr (N.dom p z)
              · by_cases hpD : p = D0
                · subst hpD; exact .inr hD
                · rw [hsame p hpD] at z
                  exact .inr (N.dom p (n6.dom p z))
            · have hpD : p ≠ D0 := fun z => by rw [z, hD] at hp; cases hp
              rw [hsame p hpD]
              refine n6.ev p o (N.ev p o hp no) fun w => ?_
              rcases N.own p w with z | z
              · exact no z
              · rw [hp] at z; cases z
            · by_cases hpD : p = D0
              · subst hpD; exact hD
              · rw [hsame p hpD] at h
                exact N.dom p (n6.dom p h)
          have n345 := n3.trans (n4.trans n5)
          rcases t3 with ⟨rfl, y, t4, rfl⟩ | ⟨rfl, rfl, rfl⟩
          · rw [if_pos rfl]
            obtain ⟨hacc, e6⟩ := e6
            intro s0 H0 C0 cl fp
            refine he s0 H0 C0 cl fp (P.av D0) ρ4 σ2 H4 y ρ5 _ gav n5.er t4 fun w H5 o5 => ?_
            have nx5 : Nx X.K (P.av D0) ρ4 σ2 H4 ρ5 σ2 H5 := o5.nx
            have dp5 : Dp X.K (hid (Wr (P.av D0) ρ5 σ2) H5) w y := o5.dp
            have n6 := n345.trans nx5
            have hl5 : H5 D0 = some (.lst us) := n6.ev D0 _ hl nD
            have hr5 := n6.keepAll hr
            have nD5 : ¬ Own ρ5 σ2 D0 := fun w => by
              rcases n6.own D0 w with z | z
              · exact nD z
              · rw [hl] at z; cases z
            have hs5 : Sub (hid (Wr (P.av D0) ρ5 σ2) H5) (hid (Wr (P.av D0) ρ5 σ2) (upd H5 D0 (.lst (us ++ [w])))) := hid_but (.inl (.inr rfl)) fun p o hp hne => by rw [upd_ne hne]; exact hp
            refine ⟨us, hl5, by rw [DpAll.length hr, ← line_eq]; exact hacc, mk ρ5 H5 _ (us ++ [w]) (acc ++ [y]) n6 (fun p hne => upd_ne hne) upd_same (er_wrAt n6.er (.inr rfl) nD5 hC) (DpAll.append (dpAll_sub hs5 _ _ hr5) (.cons (dp_sub hs5 _ _ dp5) .nil)) e6⟩
          · rw [if_neg Bool.false_ne_true]
            exact mk ρ5 H4 H4 us acc n345 (fun _ _ => rfl) (n345.ev D0 _ hl nD) n5.er (n345.keepAll hr) e6
      · cases ef
    · cases ef
  · cases ef
theorem folded_ok {it : Expr} (h : isSetD it = false) (env : Env) (x : Value) : foldedSetIterable it env x = pure x := by
  cases it <;> first | rfl | cases h
theorem pe_lcU (hc : X.calm = true) (hN : X.N.Nodup) (ok : BlkOk X.N X.env.scope scope own) (hset : isSetD it = false) : PE X (.ListComp elt [⟨tg, it, ifs, 0⟩] scope pos) (tLc (WI X tg it) (uG X scope tg) (uT X scope ifs) (uE X scope elt) (own.map (·.2))) :=
  pe_lc hc hN pi_wi ok (fun s H C cl fp => ⟨fun pins s' σ H' v u Q I r h => h s H C cl fp pins s' u I r⟩) (fun s H C cl fp => ⟨fun pins s' σ H' Q I h => h s H C cl fp pins s' I⟩) (fun s H C cl fp => ⟨fun pins s' σ H' Q I h => h s H C cl fp pins s' I⟩) (folded_ok hset _)
theorem ps_setLcU {i : Nat} {y : Str} {py spos : Pos} (hc : X.calm = true) (hN : X.N.Nodup) (hy : X.N[i]? = some y) (hyl : X.env.scope.names.lookup y = some .local)
    (hsw : swapsWith (.ListComp elt [⟨tg, it, ifs, 0⟩] scope pos) (some (.Name y py)) spos.line X.env = pure true) (ok : BlkOk X.N X.env.scope scope own) (hset : isSetD it = false) :
    PS X (.Assign [.Name y py] (.ListComp elt [⟨tg, it, ifs, 0⟩] scope pos) spos) (tAsg (tLc (WI X tg it) (uG X scope tg) (uT X scope ifs) (uE X scope elt) (own.map (·.2))) (gName i)) :=
  ps_setLc hc hN hy hyl hsw pi_wi ok (fun s H C cl fp => ⟨fun pins s' σ H' v u Q I r h => h s H C cl fp pins s' u I r⟩) (fun s H C cl fp => ⟨fun pins s' σ H' Q I h => h s H C cl fp pins s' I⟩) (fun s H C cl fp => ⟨fun pins s' σ H' Q I h => h s H C cl fp pins s' I⟩) (folded_ok hset _)
end
end Dl

set_option maxRecDepth 100000
set_option maxHeartbeats 2000000
/-! Calls of the text's defs. -/
namespace Dl
open PySem PySem.Spec L2
open PyProof.Rows hiding St

/-- what comes of a call: fr, where it is a list, that is a new one -/
structure RS (T : TB) (fr tab : Bool) (K : PySem.W.Frag) (W : Addr → Prop) (H H' : Hp) (v : V) (d : D) : Prop where
  sub : Sub H H'
  dp : tab = false → Dp K (hid W H') v d
  tb : tab = true → ∀ kvs, d = .dict kvs → ∃ p t, v = .ref p ∧ H p = none ∧ H' p = some (T p t) ∧ tabOf K (hid (fun a => W a ∨ a = p) H') kvs t
  fr : fr = true → ∀ ds, d = .list ds → ∃ p vs, v = .ref p ∧ H p = none ∧ H' p = some (HO.lst vs) ∧ DpAll K (hid (fun a => W a ∨ a = p) H') vs ds
def spN (T : TB) (K : PySem.W.Frag) (I : FnI) : Sp := fun vs H Q _ => ∃ (W : Addr → Prop) (ds : List D) (d : D), Wok W H ∧ DpAll K (hid W H) vs ds ∧ ds.length = I.ps.length ∧ I.sem [] ds = some (d, []) ∧ ∀ v H', RS T I.fr I.tab K W H H' v d → Q v H'
def spO (T : TB) (K : PySem.W.Frag) (I : FnI) : Sp := fun vs H Q _ => ∃ (W : Addr → Prop) (a : Addr) (xs os' : List V) (os ds : List D) (d : D) (out : List D), vs = .ref a :: xs ∧ W a ∧ Wok W H ∧ H a = some (.lst os') ∧ DpAll K (hid W H) os' os ∧ DpAll K (hid W H) xs ds ∧
  ds.length + 1 = I.ps.length ∧ I.sem os ds = some (d, out) ∧ ∀ v H' os'', (∀ p o, H p = some o → p ≠ a → H' p = some o) → H' a = some (.lst os'') → DpAll K (hid W H') os'' out → Dp K (hid W H') v d → Q v H'
def spS (T : TB) (K : PySem.W.Frag) (I : FnI) : Sp := fun vs H Q _ => ∃ (W : Addr → Prop) (ds : List D) (d : D), Wok W H ∧ DpAll K (hid W H) vs ds ∧ ds.length ≤ line ∧ I.sem [] [.tuple ds] = some (d, []) ∧ ∀ v H', RS T I.fr I.tab K W H H' v d → Q v H'
def spF (T : TB) (K : PySem.W.Frag) (I : FnI) : Sp := match I.own with
  | true => spO T K I
  | false => spN T K I
/-- keywords alone, each parameter once -/
def KwOk (K : PySem.W.Frag) (fd : FuncData) (ps ks : List Str) : Prop := ∀ js, permOf ps (ks.map some) = some js → ∀ (s : Shared) (ws : List Value), K.In s.heap → ws.length = ks.length → BindsTo s fd ⟨[], ks.zip ws⟩ (ps.zip (pickL js ws))
/-- the own error class's facts -/
structure ExcOk (K : PySem.W.Frag) (mg : Str → Option Value) (C : Addr) : Prop where
  g : mg "OtherKind" = some (.ref C)
  x : PySem.W.excIn K C [.type "ValueError", .type "Exception", .type "BaseException", .type "object"] "ValueError.__new__" = true
  k : PySem.W.keepIn K (.ref C) = true
  b : PySem.W.subIn K (.ref C) (.type "BaseException") = some true
  t : PySem.W.typeIn K (.ref C) = some (.type "type")
/-- a call that raises: nothing but new objects -/
def spR (K : PySem.W.Frag) (I : FnI) (C : Addr) : Sp := fun vs H _ E => ∃ (W : Addr → Prop) (ds : List D), Wok W H ∧ DpAll K (hid W H) vs ds ∧ ds.length = I.ps.length ∧ I.rz ds = true ∧ ∀ H', Sub H H' → E (.ref C) none H'
def spRS (K : PySem.W.Frag) (I : FnI) (C : Addr) : Sp := fun vs H _ E => ∃ (W : Addr → Prop) (ds : List D), Wok W H ∧ DpAll K (hid W H) vs ds ∧ ds.length ≤ line ∧ I.rz [.tuple ds] = true ∧ ∀ H', Sub H H' → E (.ref C) none H'
/-- the def at f is as I says, at level k -/
structure FnP (P : Program) (w : World) (K : PySem.W.Frag) (mg : Str → Option Value) (base : Heap) (k : Nat) (x : Str) (I : FnI) : Prop where
  len : I.star = false → ∀ os xs d out, I.sem os xs = some (d, out) → xs.length + (if I.own then 1 else 0) = I.ps.length
  ex : ∃ f, mg x = some (.ref f) ∧ PySem.W.keepIn K (.ref f) = true ∧ (I.star = true → FnR P w K mg base CX0 k f (spS (TabO P w) K I)) ∧
    (I.star = false → ∃ fd, FnOk P w K mg base CX0 k f fd I.ps (spF (TabO P w) K I) ∧ Binds K fd I.ps [] ∧ (∀ ks ∈ I.kw, KwOk K fd I.ps ks) ∧ ∃ (oc : Value) (od : Option Addr) (osl : Array (Option Value)), K.lookup f = some ⟨oc, od, .func fd, osl⟩)
  rz : ∀ C, ExcOk K mg C → I.own = false → ∃ f, mg x = some (.ref f) ∧ PySem.W.keepIn K (.ref f) = true ∧ (I.star = true → FnR P w K mg base (L2.CX P w) k f (spRS K I C)) ∧
    (I.star = false → ∃ fd, FnOk P w K mg base (L2.CX P w) k f fd I.ps (spR K I C) ∧ Binds K fd I.ps [])
section
variable {X : Cx} {pn : List Nat} {e a b o : Expr} {es : List Expr} {fr : Bool} {f fa fb fc : EV} {pos cp ap : Pos} {k : Nat} {I : FnI} {x : Str} {p : Pos} {r : AV}

theorem Out.call {T : TB} {K : PySem.W.Frag} {P : Pm} {ρ ρ2 : Rho} {σ : SSt} {H H2 H3 : Hp} {v : V} {d : D} {fi : Bool} (hf : fr = true → fi = true) (n : Nx K P ρ σ H ρ2 σ H2) {tb : Bool} (ht : tb = false) (r : RS T fi tb K (Wr P ρ2 σ) H2 H3 v d) : Out fr K P ρ σ H ρ2 H3 v d :=
  ⟨n.trans (n.er.ext r.sub), r.dp ht, fun z ds e => by
    obtain ⟨p, vs, ev, hp, hl, hr⟩ := r.fr (hf z) ds e
    subst ev
    exact Fr.of n.er hp (n.dom p hp) r.sub hl hr⟩
theorem call_some {ρ ρ' : Rho} {d : D} (h : C.call I r ρ = some (d, ρ')) : ∃ xs, r ρ = some (xs, ρ') ∧ I.sem [] xs = some (d, []) := by
  unfold C.call at h
  split at h
  · rename_i xs ρ1 e1
    split at h
    · rename_i e2
      cases h
      exact ⟨xs, e1, e2⟩
    · cases h
  · cases h
theorem de_call (F : FnP X.prog X.w X.K X.mg X.base k x I) (ht : I.tab = false) (hs : I.star = false) (ho : I.own = false) (hr : Room k X.A) (hg : Gl X x) (hd : (x == ("__debug__" : Str)) = false) (hn : noStar e = true) (hm : es.all noStar = true) (hf : fr = true → I.fr = true) (ha : DA X pn (e :: es) r) :
    DE X pn (.Call (.Name x p) (e :: es) [] pos) fr (C.call I r) := fun P ρ σ H d ρ' Q g er ef q => by
  obtain ⟨xs, e1, e2⟩ := call_some ef
  obtain ⟨fa, h1, h2, _, h3⟩ := F.ex
  obtain ⟨fd, h3, h4, _⟩ := h3 hs
  have hl := F.len hs _ _ _ _ e2
  rw [ho] at hl
  refine WE.of (pe_call (dvs := []) (ds := []) (E := E0) h3 hr hg h1 h2 h4 .nil pass0 pa_wa hd (star_cons hn) (nostar_any hm)) (ha P ρ σ H xs ρ' _ g er e1 fun vs H1 n h => ?_)
  show spF (tbX X) X.K I (vs ++ []) H1 Q E0
  unfold spF
  rw [ho, List.append_nil]
  exact ⟨Wr P ρ' σ, xs, d, n.er.wok, h, by simpa using hl, e2, fun v H2 s => q _ _ (Out.call hf n ht s)⟩
theorem de_call0 (F : FnP X.prog X.w X.K X.mg X.base k x I) (ht : I.tab = false) (hs : I.star = false) (ho : I.own = false) (hr : Room k X.A) (hg : Gl X x) (hd : (x == ("__debug__" : Str)) = false) (hf : fr = true → I.fr = true) :
    DE X pn (.Call (.Name x p) [] [] pos) fr (C.call I C.nil) := fun P ρ σ H d ρ' Q g er ef q => by
  obtain ⟨xs, e1, e2⟩ := call_some ef
  obtain ⟨fa, h1, h2, _, h3⟩ := F.ex
  obtain ⟨fd, h3, h4, _⟩ := h3 hs
  cases e1
  have hl := F.len hs _ _ _ _ e2
  rw [ho] at hl
  refine WE.of (pe_call0 (dvs := []) (ds := []) (E := E0) h3 hr hg h1 h2 h4 .nil pass0 hd) ?_
  show spF (tbX X) X.K I [] H Q E0
  unfold spF
  rw [ho]
  exact ⟨Wr P ρ σ, [], d, er.wok, .nil, by simpa using hl, e2, fun v H2 s => q _ _ (Out.call hf (Nx.refl er) ht s)⟩
theorem own_setOwn {ρ : Rho} {σ : SSt} {i : Nat} {ds out : List D} {a : Addr} (h : ρ[i]? = some (.own ds)) (w : Own (ρ.set i (.own out)) σ a) : Own ρ σ a := by
  obtain ⟨j, y, q1, hy, q2⟩ := w
  by_cases z : i = j
  · subst z; exact ⟨i, _, h, True.intro, q2⟩
  · rw [get_set_ne z] at q1; exact ⟨j, y, q1, hy, q2⟩
theorem de_callO {i : Nat} (F : FnP X.prog X.w X.K X.mg X.base k x I) (hs : I.star = false) (ho : I.own = true) (hr : Room k X.A) (hg : Gl X x) (hd : (x == ("__debug__" : Str)) = false) (hn : noStar e = true) (hm : es.all noStar = true) (he : PE X e (tVar i)) (ha : DA X pn es r) :
    DE X pn (.Call (.Name x p) (e :: es) [] pos) false (C.callO I i r) := fun P ρ σ H d ρ' Q g er ef q => by
  unfold C.callO at ef
  split at ef
  · rename_i ds0 e0
    split at ef
    · rename_i xs ρ1 e1
      split at ef
      · rename_i ds e2
        split at ef
        · rename_i d0 out e3
          cases ef
          obtain ⟨fa, h1, h2, _, h3⟩ := F.ex
          obtain ⟨fd, h3, h4, _⟩ := h3 hs
          have hl := F.len hs _ _ _ _ e3
          rw [ho] at hl
          obtain ⟨a0, vs0, k1, _, k3, _⟩ := er.own i ds0 e0
          refine WE.of (pe_call (dvs := []) (ds := []) (E := E0) h3 hr hg h1 h2 h4 .nil pass0 (pa_cons he pa_wa (star_cons hn)) hd (star_cons hn) (nostar_any hm)) ⟨.ref a0, k1, ha P ρ σ H xs ρ1 _ g er e1 fun vs H1 n h => ?_⟩
          show spF (tbX X) X.K I ((V.ref a0 :: vs) ++ []) H1 Q E0
          unfold spF
          rw [ho, List.append_nil]
          obtain ⟨a1, vs1, g1, g2, g3, g4⟩ := n.er.own i ds e2
          rw [k1] at g1; cases g1
          refine ⟨Wr P ρ1 σ, a0, vs, vs1, ds, xs, d, out, rfl, .inr ⟨i, _, e2, True.intro, k1⟩, n.er.wok, g3, g4, h, hl, e3, fun v H' os'' s1 s2 s3 s4 => ?_⟩
          have n2 := n.er.setOwnAt (ds' := out) e2 k1 s1 s2 s3
          exact q _ _ (Out.same (n.trans n2) (dp_sub (hid_mono (wr_le fun p w => own_setOwn e2 w)) _ _ s4))
        · cases ef
      · cases ef
    · cases ef
  · cases ef
theorem callS_some {ρ ρ' : Rho} {d : D} (h : C.callS I r ρ = some (d, ρ')) : ∃ xs, r ρ = some (xs, ρ') ∧ xs.length ≤ line ∧ I.sem [] [.tuple xs] = some (d, []) := by
  unfold C.callS at h
  split at h
  · rename_i xs ρ1 e1
    split at h
    · rename_i e2 e3
      cases h
      exact ⟨xs, e1, of_decide_eq_true e2, e3⟩
    · cases h
  · cases h
theorem de_callS (F : FnP X.prog X.w X.K X.mg X.base k x I) (ht : I.tab = false) (hs : I.star = true) (hr : Room k X.A) (hg : Gl X x) (hd : (x == ("__debug__" : Str)) = false) (hn : noStar e = true) (hm : es.all noStar = true) (ha : DA X pn (e :: es) r) :
    DE X pn (.Call (.Name x p) (e :: es) [] pos) false (C.callS I r) := fun P ρ σ H d ρ' Q g er ef q => by
  obtain ⟨xs, e1, e3, e2⟩ := callS_some ef
  obtain ⟨fa, h1, h2, h3, _⟩ := F.ex
  have h3 := h3 hs
  have hp : PE X (.Call (.Name x p) (e :: es) [] pos) (fun σ H Q => WA X (e :: es) σ H fun vs H1 => spS (tbX X) X.K I vs H1 Q E0) := by
    refine ⟨fun pins s σ H Q J h => ?_⟩
    refine wpAny_Call_Name_kw (ld_glob J hg h1 ?_ hd)
    refine PySem.W.callWith_K (h₀ := X.base) J.ok.mod.kin h2 (thn (h pos pins s J) fun us s1 ⟨vs, H1, I1, r, q⟩ => ⟨I1.kIn, ?_⟩) (star_cons hn) (nostar_any hm)
    exact wpAny_call (run_fnR h3 hr pass0 I1 r q)
  exact WE.of hp (ha P ρ σ H xs ρ' _ g er e1 fun vs H1 n h => ⟨Wr P ρ' σ, xs, d, n.er.wok, h, e3, e2, fun v H2 s => q _ _ (Out.call (fun z => by cases z) n ht s)⟩)
/-! keywords -/
theorem DpAll.pickL {K : PySem.W.Frag} {H : Hp} {vs : List V} {ds : List D} (h : DpAll K H vs ds) : ∀ js : List Nat, DpAll K H (Dl.pickL js vs) (Dl.pickL js ds)
  | [] => .nil
  | j :: js => by
    have ih := DpAll.pickL h js
    unfold Dl.pickL at ih ⊢
    rw [List.filterMap_cons, List.filterMap_cons]
    cases e : ds[j]? with
    | none =>
      have : vs[j]? = none := by
        rw [List.getElem?_eq_none_iff] at e ⊢
        rw [DpAll.length h]; exact e
      rw [this]
      exact ih
    | some d =>
      obtain ⟨v, hv, rv⟩ := DpAll.get h e
      rw [hv]
      exact .cons rv ih
theorem vals_pickL {vs : List V} {us : List Value} (h : Vals vs us) : ∀ js : List Nat, Vals (Dl.pickL js vs) (Dl.pickL js us)
  | [] => .nil
  | j :: js => by
    have ih := vals_pickL h js
    unfold Dl.pickL at ih ⊢
    rw [List.filterMap_cons, List.filterMap_cons]
    cases e : vs[j]? with
    | none =>
      have : us[j]? = none := by
        rw [List.getElem?_eq_none_iff] at e ⊢
        rw [← h.length]; exact e
      rw [this]
      exact ih
    | some d =>
      obtain ⟨v, hv, rv⟩ := h.get e
      rw [hv]
      exact .cons rv ih
theorem kw_facts {env : Env} {kpos : Pos} : ∀ {kws : List Keyword} {ks : List Str}, kws.map (·.arg) = ks.map some →
    (backToKw kpos (keywordEach kws env)).all (·.1.isSome) = true ∧ (backToKw kpos (keywordEach kws env)).filterMap (·.1) = ks ∧ (backToKw kpos (keywordEach kws env)).any (·.1.isNone) = false
  | [], [], _ => ⟨rfl, rfl, rfl⟩
  | [], _ :: _, h => by cases h
  | _ :: _, [], h => by cases h
  | ⟨nm, v, p⟩ :: r, y :: ys, h => by
    rw [List.map_cons, List.map_cons] at h
    injection h with h1 h2
    have h1 : nm = some y := h1
    subst h1
    obtain ⟨a1, a2, a3⟩ := kw_facts (env := env) (kpos := kpos) h2
    refine ⟨?_, ?_, ?_⟩
    · show (true && (backToKw kpos (keywordEach r env)).all (·.1.isSome)) = true
      rw [a1]; rfl
    · show y :: (backToKw kpos (keywordEach r env)).filterMap (·.1) = y :: ys
      rw [a2]
    · show (false || (backToKw kpos (keywordEach r env)).any (·.1.isNone)) = false
      rw [a3]; rfl
/-- the keywords' values: a reading as of an argument list -/
def WK (X : Cx) (kws : List Keyword) : TA := fun σ H Q => ∀ (pos : Pos) (pins : List (Addr × Obj)) (s : Shared), Inv X pins σ H s → wpAny (model X.prog X.w) X.A (evalAll ((backToKw pos (keywordEach kws X.env)).map (·.2))) (AP X pins σ Q) X.xe s
theorem pk_wk {kws : List Keyword} : PK X kws (WK X kws) := ⟨fun pos pins s _ _ _ I h => h pos pins s I⟩
theorem WK.of {kws : List Keyword} {σ : SSt} {H : Hp} {t : TA} {Q : List V → Hp → Prop} (h : PK X kws t) (q : t σ H Q) : WK X kws σ H Q := fun pos pins s I => h.run pos pins s σ H Q I q
def DK (X : Cx) (pn : List Nat) (kws : List Keyword) (f : AV) : Prop := ∀ (P : Pm) (ρ : Rho) (σ : SSt) (H : Hp) (ds : List D) (ρ' : Rho) (Q : List V → Hp → Prop), Good (tbX X) P pn → ER X.K P ρ σ H → f ρ = some (ds, ρ') →
  (∀ vs H', Nx X.K P ρ σ H ρ' σ H' → DpAll X.K (hid (Wr P ρ' σ) H') vs ds → Q vs H') → WK X kws σ H Q
theorem dk_all {ev : Expr → EV} (h : ∀ e, DE X pn e false (ev e)) : ∀ kws : List Keyword, DK X pn kws (argsL (kws.map fun q => (false, ev q.value)))
  | [] => fun P ρ σ H ds ρ' Q g er ef q => by
    cases ef
    exact WK.of pk_nil (q _ _ (Nx.refl er) .nil)
  | ⟨nm, e, p⟩ :: r => fun P ρ σ H ds ρ' Q g er ef q => by
    obtain ⟨x, ρ1, xs, e1, e2, rfl⟩ := cons_some (show C.cons (ev e) (argsL (r.map fun q => (false, ev q.value))) ρ = some (ds, ρ') from ef)
    exact WK.of (pk_cons pe_we pk_wk) (h e P ρ σ H x ρ1 _ g er e1 fun v H1 o => dk_all h r P ρ1 σ H1 xs ρ' _ g o.nx.er e2 fun vs H2 n hh => q _ _ (o.nx.trans n) (.cons (n.keep o.dp) hh))
theorem callK_some {js : List Nat} {ρ ρ' : Rho} {d : D} (h : C.callK I js r ρ = some (d, ρ')) : ∃ xs, r ρ = some (xs, ρ') ∧ I.sem [] (pickL js xs) = some (d, []) := by
  unfold C.callK at h
  split at h
  · rename_i xs ρ1 e1
    split at h
    · rename_i e2
      cases h
      exact ⟨xs, e1, e2⟩
    · cases h
  · cases h
theorem evAll_len {ev : Expr → EV} : ∀ {kws : List Keyword} {ρ ρ' : Rho} {ds : List D}, argsL (kws.map fun q => (false, ev q.value)) ρ = some (ds, ρ') → ds.length = kws.length
  | [], _, _, _, h => by cases h; rfl
  | k :: r, ρ, ρ', ds, h => by
    obtain ⟨x, ρ1, xs, e1, e2, rfl⟩ := cons_some (show C.cons (ev k.value) (argsL (r.map fun q => (false, ev q.value))) ρ = some (ds, ρ') from h)
    rw [List.length_cons, List.length_cons, evAll_len e2]
theorem de_callK {kws : List Keyword} {js : List Nat} {ev : Expr → EV} (F : FnP X.prog X.w X.K X.mg X.base k x I) (ht : I.tab = false) (hs : I.star = false) (ho : I.own = false) (hr : Room k X.A) (hg : Gl X x) (hd : (x == ("__debug__" : Str)) = false)
    (hj : permOf I.ps (kws.map (·.arg)) = some js) (hkw : kwIn I.kw (kws.map (·.arg)) = true) (hf : fr = true → I.fr = true) (h : ∀ e, DE X pn e false (ev e)) :
    DE X pn (.Call (.Name x p) [] kws pos) fr (C.callK I js (argsL (kws.map fun q => (false, ev q.value)))) := fun P ρ σ H d ρ' Q g er ef q => by
  obtain ⟨xs, e1, e2⟩ := callK_some ef
  obtain ⟨fa, h1, h2, _, h3⟩ := F.ex
  obtain ⟨fd, h3, h4, h5, _⟩ := h3 hs
  obtain ⟨ks, hks, hk2⟩ := List.any_eq_true.mp hkw
  have hk2 : ks.map some = kws.map (·.arg) := of_decide_eq_true hk2
  have kwo := h5 ks hks
  rw [← hk2] at hj
  have hb : KBn X.K fd I.ps 0 ks (fun _ ws => pickL js ws) (fun _ zs => pickL js zs) := ⟨fun s us ws X l1 l2 => by
      rw [List.length_eq_zero_iff.mp l1]
      exact kwo js hj s ws X l2, fun _ rz => vals_pickL rz js⟩
  obtain ⟨a1, a2, a3⟩ := kw_facts (env := X.env) (kpos := pos) hk2.symm
  have hl := F.len hs _ _ _ _ e2
  rw [ho] at hl
  have hp : PE X (.Call (.Name x p) [] kws pos) (fun σ H Q => WK X kws σ H fun zs H1 => zs.length = ks.length ∧ spF (tbX X) X.K I (pickL js zs) H1 Q E0) := by
    refine ⟨fun pins s σ H Q J h => ?_⟩
    refine wpAny_Call_Name_kw (ld_glob J hg h1 ?_ hd)
    refine PySem.W.callWith_KW0 (h₀ := X.base) J.ok.mod.kin h2 a1 ?_ (by rw [a3]; rfl)
    refine thn (h pos pins s J) fun ws s2 ⟨zs, H2, I2, rz, l2, q2⟩ => ⟨I2.kIn, ?_⟩
    rw [a2]
    exact run_fnN (us := []) (vs := []) h3 hr hb pass0 I2 .nil rz rfl l2 q2
  refine WE.of hp (dk_all h kws P ρ σ H xs ρ' _ g er e1 fun vs H1 n hh => ⟨?_, ?_⟩)
  · rw [DpAll.length hh, evAll_len e1]
    have := congrArg List.length hk2
    rw [List.length_map, List.length_map] at this
    exact this.symm
  · unfold spF
    rw [ho]
    exact ⟨Wr P ρ' σ, pickL js xs, d, n.er.wok, DpAll.pickL hh js, by simpa using hl, e2, fun v H2 s => q _ _ (Out.call hf n ht s)⟩
end
end Dl

set_option maxRecDepth 100000
set_option maxHeartbeats 2000000
/-! Statements. -/
namespace Dl
open PySem PySem.Spec L2
open PyProof.Rows hiding St

/-- what is given back: data, or an own table -/
def RtOk (rt : Bool) (K : PySem.W.Frag) (P : Pm) (ρ' : Rho) (σ' : SSt) (H' : Hp) (v : V) : D → Prop
  | .dict kvs => rt = true ∧ ∃ i, ρ'[i]? = some (.tab kvs) ∧ σ'[i]? = some (some v) ∧ ∀ q ∈ P.pins, q.1 ≠ i
  | d => Dp K (hid (Wr P ρ' σ') H') v d
theorem RtOk.of {rt : Bool} {K : PySem.W.Frag} {P : Pm} {ρ' : Rho} {σ' : SSt} {H' : Hp} {v : V} {d : D} (h : Dp K (hid (Wr P ρ' σ') H') v d) : RtOk rt K P ρ' σ' H' v d := by
  cases d with
  | dict kvs => cases h
  | _ => exact h
theorem RtOk.dp {K : PySem.W.Frag} {P : Pm} {ρ' : Rho} {σ' : SSt} {H' : Hp} {v : V} {d : D} {rt : Bool} (z : rt = false) (h : RtOk rt K P ρ' σ' H' v d) : Dp K (hid (Wr P ρ' σ') H') v d := by
  cases d with
  | dict kvs => rw [z] at h; exact absurd h.1 Bool.false_ne_true
  | _ => exact h
def EndsOk (fr rt : Bool) (K : PySem.W.Frag) (P : Pm) (ρ : Rho) (σ : SSt) (H : Hp) (ρ' : Rho) (fl : Fl) (D : Ends) : Prop := match fl with
  | .nx => ∀ σ' H', Nx K P ρ σ H ρ' σ' H' → D.nx σ' H'
  | .rt d => ∀ v σ' H', Nx K P ρ σ H ρ' σ' H' → RtOk rt K P ρ' σ' H' v d → (fr = true → ∀ ds, d = .list ds → Fr K P ρ' σ' H H' v ds) → D.rt v H'
  | .bk => ∀ σ' H', Nx K P ρ σ H ρ' σ' H' → D.bk σ' H'
  | .ct => ∀ σ' H', Nx K P ρ σ H ρ' σ' H' → D.ct σ' H'
def DS (X : Cx) (pn : List Nat) (fr rt : Bool) (st : Stmt) (f : ZV) : Prop := ∀ (P : Pm) (ρ : Rho) (σ : SSt) (H : Hp) (fl : Fl) (ρ' : Rho) (D : Ends), Good (tbX X) P pn → ER X.K P ρ σ H → f ρ = some (fl, ρ') →
  EndsOk fr rt X.K P ρ σ H ρ' fl D → WS X st D σ H
def DSs (X : Cx) (pn : List Nat) (fr rt : Bool) (sts : List Stmt) (f : ZV) : Prop := ∀ (P : Pm) (ρ : Rho) (σ : SSt) (H : Hp) (fl : Fl) (ρ' : Rho) (D : Ends), Good (tbX X) P pn → ER X.K P ρ σ H → f ρ = some (fl, ρ') →
  EndsOk fr rt X.K P ρ σ H ρ' fl D → WSs X sts D σ H
theorem Fr.dom {K : PySem.W.Frag} {P : Pm} {ρ ρ1 ρ2 : Rho} {σ σ1 σ2 : SSt} {H H1 H2 : Hp} {v : V} {ds : List D} (n : Nx K P ρ σ H ρ1 σ1 H1) (f : Fr K P ρ2 σ2 H1 H2 v ds) : Fr K P ρ2 σ2 H H2 v ds := by
  obtain ⟨p, vs, e, hp, r⟩ := f
  exact ⟨p, vs, e, n.dom p hp, r⟩
theorem EndsOk.after {fr rt : Bool} {K : PySem.W.Frag} {P : Pm} {ρ ρ1 ρ' : Rho} {σ σ1 : SSt} {H H1 : Hp} {fl : Fl} {D : Ends} (n : Nx K P ρ σ H ρ1 σ1 H1) (h : EndsOk fr rt K P ρ σ H ρ' fl D) : EndsOk fr rt K P ρ1 σ1 H1 ρ' fl D := by
  cases fl with
  | nx => exact fun σ' H' m => h σ' H' (n.trans m)
  | rt d => exact fun v σ' H' m r f => h v σ' H' (n.trans m) r fun z ds e => (f z ds e).dom n
  | bk => exact fun σ' H' m => h σ' H' (n.trans m)
  | ct => exact fun σ' H' m => h σ' H' (n.trans m)
section
variable {X : Cx} {pn : List Nat} {fr rt : Bool} {e a b o : Expr} {st : Stmt} {sts : List Stmt} {pos pos2 pos3 cp ap : Pos} {fa fb : EV} {fs gs : ZV}
theorem ds_fail : DS X pn fr rt st C.fail := fun P ρ σ H fl ρ' D g er ef q => by cases ef
theorem dss_fail : DSs X pn fr rt sts C.fail := fun P ρ σ H fl ρ' D g er ef q => by cases ef
theorem ds_pass : DS X pn fr rt (.Pass pos) S.skip := fun P ρ σ H fl ρ' D g er ef q => by
  cases ef
  exact WS.of ps_pass (q _ _ (Nx.refl er))
theorem ds_break : DS X pn fr rt (.Break pos) S.brk := fun P ρ σ H fl ρ' D g er ef q => by
  cases ef
  exact WS.of ps_break (q _ _ (Nx.refl er))
theorem ds_cont : DS X pn fr rt (.Continue pos) S.cont := fun P ρ σ H fl ρ' D g er ef q => by
  cases ef
  exact WS.of ps_continue (q _ _ (Nx.refl er))
theorem ds_retN : DS X pn false rt (.Return none pos) S.retN := fun P ρ σ H fl ρ' D g er ef q => by
  cases ef
  exact WS.of ps_retN (q _ _ _ (Nx.refl er) (RtOk.of .non) fun z => by cases z)
theorem ds_ret (ha : DE X pn e fr fa) : DS X pn fr rt (.Return (some e) pos) (S.ret fa) := fun P ρ σ H fl ρ' D g er ef q => by
  obtain ⟨p, e1, e2⟩ := Option.map_eq_some_iff.mp ef
  cases e2
  exact WS.of (ps_ret pe_we) (ha P ρ σ H p.1 p.2 _ g er e1 fun v H1 o => q v σ H1 o.nx (RtOk.of o.dp) o.fr)
theorem ds_if {t : TV} {tst : Expr} {as bs : List Stmt} (ht : DT X pn tst t) (ha : DSs X pn fr rt as fs) (hb : DSs X pn fr rt bs gs) : DS X pn fr rt (.If tst as bs pos) (S.ite t fs gs) := fun P ρ σ H fl ρ' D g er ef q => by
  unfold S.ite at ef
  split at ef
  · rename_i ρ1 e1
    exact WS.of (ps_if pt_wt pss_wss pss_wss) (ht P ρ σ H true ρ1 _ g er e1 fun H1 n => ha P ρ1 σ H1 fl ρ' D g n.er ef (q.after n))
  · rename_i ρ1 e1
    exact WS.of (ps_if pt_wt pss_wss pss_wss) (ht P ρ σ H false ρ1 _ g er e1 fun H1 n => hb P ρ1 σ H1 fl ρ' D g n.er ef (q.after n))
  · cases ef
theorem seq_cases {ρ ρ' : Rho} {fl : Fl} (h : S.seq fs gs ρ = some (fl, ρ')) : (∃ ρ1, fs ρ = some (.nx, ρ1) ∧ gs ρ1 = some (fl, ρ')) ∨ (fs ρ = some (fl, ρ') ∧ fl ≠ .nx) := by
  unfold S.seq at h
  split at h
  · rename_i ρ1 e1
    exact .inl ⟨ρ1, e1, h⟩
  · rename_i hne
    exact .inr ⟨h, fun z => hne ρ' (by rw [h, z])⟩
theorem dss_all {sv : Stmt → ZV} : ∀ {sts : List Stmt}, (∀ st ∈ sts, DS X pn fr rt st (sv st)) → DSs X pn fr rt sts (seqL (sts.map sv))
  | [], _ => fun P ρ σ H fl ρ' D g er ef q => by
    cases ef
    exact WSs.of pss_nil (q _ _ (Nx.refl er))
  | [s], h => fun P ρ σ H fl ρ' D g er ef q => WSs.of (pss_one ps_ws) (h s List.mem_cons_self P ρ σ H fl ρ' D g er ef q)
  | s :: t :: r, h => fun P ρ σ H fl ρ' D g er ef q => by
    have rest := dss_all (sts := t :: r) fun st hst => h st (List.mem_cons_of_mem _ hst)
    have h0 := h s List.mem_cons_self
    refine WSs.of (pss_cons ps_ws pss_wss) ?_
    rcases seq_cases (show S.seq (sv s) (seqL ((t :: r).map sv)) ρ = some (fl, ρ') from ef) with ⟨ρ1, e1, e2⟩ | ⟨e1, hne⟩
    · exact h0 P ρ σ H .nx ρ1 _ g er e1 fun σ1 H1 n => rest P ρ1 σ1 H1 fl ρ' D g n.er e2 (q.after n)
    · refine h0 P ρ σ H fl ρ' _ g er e1 ?_
      cases fl with
      | nx => exact absurd rfl hne
      | rt d => exact q
      | bk => exact q
      | ct => exact q
/-! ### stores -/
theorem sv_cases (fr : Bool) (d : D) : (∃ ds, fr = true ∧ d = .list ds ∧ S.svOf fr d = .own ds) ∨ S.svOf fr d = .val d := by
  cases fr with
  | false => exact .inr rfl
  | true =>
    cases d with
    | list ds => exact .inl ⟨ds, rfl, rfl, rfl⟩
    | _ => exact .inr rfl
theorem nx_store {K : PySem.W.Frag} {P : Pm} {ρ ρ1 : Rho} {σ : SSt} {H H1 : Hp} {v : V} {d : D} {i : Nat} (g : Good (tbX X) P pn) (hp : pn.contains i = false) (er : ER K P ρ σ H) (o : Out fr K P ρ σ H ρ1 H1 v d) (li : i < ρ1.length) : Nx K P ρ σ H (ρ1.set i (S.svOf fr d)) (σ.set i (some v)) H1 := by
  rcases sv_cases fr d with ⟨ds, rfl, rfl, e⟩ | e
  · rw [e]
    exact Nx.setOwn g.ok er o.nx (o.fr rfl ds rfl) li (g.free hp)
  · rw [e]
    exact o.nx.trans (o.nx.er.setVal li (g.free hp) o.dp)
theorem asg_some {i : Nat} {f : Bool} {ρ ρ' : Rho} {fl : Fl} (h : S.asg i f fa ρ = some (fl, ρ')) : ∃ d ρ1, fa ρ = some (d, ρ1) ∧ i < ρ1.length ∧ fl = .nx ∧ ρ' = ρ1.set i (S.svOf f d) := by
  unfold S.asg at h
  split at h
  · rename_i d ρ1 e1
    split at h
    · rename_i hl
      cases h
      exact ⟨d, ρ1, e1, of_decide_eq_true hl, rfl, rfl⟩
    · cases h
  · cases h
theorem ds_set {c : Ct} {i : Nat} {f : Bool} {x : Str} (k : Cok X c) (hpn : c.pn = pn) (hs : storeSlot c (.Name x pos2) = some i) (ha : DE X pn e f fa) (hsw : swapsWith e (some (.Name x pos2)) pos.line X.env = pure false) : DS X pn fr rt (.Assign [.Name x pos2] e pos) (S.asg i f fa) := fun P ρ σ H fl ρ' D g er ef q => by
  obtain ⟨d, ρ1, e1, li, rfl, rfl⟩ := asg_some ef
  obtain ⟨x', p', ex, h1, h2, h3, h4⟩ := store_ok' k hs
  cases ex
  rw [hpn] at h4
  exact WS.of (ps_set (by rw [k.N]; exact k.nd) h1 h2 pe_we hsw h3) (ha P ρ σ H d ρ1 _ g er e1 fun v H1 o => q _ _ (nx_store g h4 er o li))
theorem ds_asgG {j : Nat} {ts : List Expr} {gv : GV} (ht : isTupD e = false) (ha : DE X pn e false fa) (hg : DG X pn none (.Tuple ts j pos2) gv) : DS X pn fr rt (.Assign [.Tuple ts j pos2] e pos) (S.asgG gv fa) := fun P ρ σ H fl ρ' D g er ef q => by
  unfold S.asgG at ef
  split at ef
  · rename_i d ρ1 e1
    obtain ⟨ρ2, e2, e3⟩ := Option.map_eq_some_iff.mp ef
    cases e3
    refine WS.of (ps_asg pe_we pg_wg (by cases e <;> rfl) (by cases e <;> first | rfl | cases ht) rfl) (ha P ρ σ H d ρ1 _ g er e1 fun v H1 o => hg P ρ1 σ H1 v d ρ' _ g o.nx.er o.dp e2 fun σ' n _ => q _ _ (o.nx.trans n))
  · cases ef
theorem ds_setItem {i : Nat} {ix : Expr} (hs : isSlice ix = false) (ho : PE X o (tVar i)) (hb : DE X pn ix false fb) (ha : DE X pn e false fa) : DS X pn fr rt (.Assign [.Subscript o ix pos2] e pos) (S.setItem i fb fa) := fun P ρ σ H fl ρ' D g er ef q => by
  unfold S.setItem at ef
  split at ef
  · rename_i d ρ1 e1
    split at ef
    · rename_i ds0 e0
      split at ef
      · rename_i k ρ2 e2
        split at ef
        · rename_i ds e3
          split at ef
          · rename_i j e4
            cases ef
            refine WS.of (ps_asg pe_we (pg_sub ho pe_we set_list (by intro v; cases ix <;> first | rfl | cases hs)) (by cases e <;> rfl) (by cases e <;> rfl) rfl) (ha P ρ σ H d ρ1 _ g er e1 fun v H1 o1 => ?_)
            obtain ⟨a0, vs0, k1, _, _, _⟩ := o1.nx.er.own i ds0 e0
            refine ⟨.ref a0, k1, hb P ρ1 σ H1 (.int k) ρ2 _ g o1.nx.er e2 fun u H2 o2 => ?_⟩
            obtain ⟨a1, vs1, g1, g2, g3, g4⟩ := o2.nx.er.own i ds e3
            rw [k1] at g1; cases g1
            have n3 := setOwn_run o2.nx.er e3 k1 (DpAll.set (o2.nx.keep o1.dp) j g4)
            exact ⟨a0, vs1, k, j, rfl, dp_int o2.dp, g3, by rw [DpAll.length g4]; exact e4, q _ _ (o1.nx.trans (o2.nx.trans n3))⟩
          · cases ef
        · cases ef
      · cases ef
    · cases ef
  · cases ef
theorem ds_aug {c : Ct} {i : Nat} {x : Str} (k : Cok X c) (hpn : c.pn = pn) (hs : storeSlot c (.Name x pos2) = some i) (ha : DE X pn e false fa) : DS X pn fr rt (.AugAssign (.Name x pos2) .Add e pos) (S.aug i (fun d e => match d, e with | .int k, .int j => some (.int (k + j)) | _, _ => none) fa) := fun P ρ σ H fl ρ' D g er ef q => by
  obtain ⟨x', p', ex, h1, h2, h3, h4⟩ := store_ok' k hs
  cases ex
  rw [hpn] at h4
  unfold S.aug at ef
  split at ef
  · rename_i d0 e0
    split at ef
    · rename_i y ρ1 e1
      split at ef
      · rename_i z e2
        cases ef
        obtain ⟨v0, k1, k2⟩ := er.val i _ e0
        dsimp only at e2
        split at e2
        · rename_i ki kj
          cases e2
          have ev := dp_int k2
          subst ev
          refine WS.of (ps_aug (by rw [k.N]; exact k.nd) h1 h2 pe_we ip_add h3) ⟨.int ki, k1, ha P ρ σ H _ ρ1 _ g er e1 fun v H1 o1 => ⟨ki, kj, rfl, dp_int o1.dp, ?_⟩⟩
          have li : i < ρ1.length := by rw [o1.nx.er.len]; exact lt_of_get k1
          exact q _ _ (o1.nx.trans (o1.nx.er.setVal li (g.free h4) (.int _)))
        · cases e2
      · cases ef
    · cases ef
  · cases ef
theorem ds_append {i : Nat} (h : metB o ap cp = true) (hn : noStar a = true) (ho : PE X o (tVar i)) (ha : DE X pn a false fa) : DS X pn fr rt (.Expr (.Call (.Attribute o "append" ap) [a] [] cp) pos) (S.append i fa) := fun P ρ σ H fl ρ' D g er ef q => by
  unfold S.append at ef
  split at ef
  · rename_i ds0 e0
    split at ef
    · rename_i d ρ1 e1
      split at ef
      · rename_i ds e2
        split at ef
        · rename_i hl
          cases ef
          have hl := of_decide_eq_true hl
          rw [line_eq] at hl
          obtain ⟨a0, vs0, k1, _, k3, _⟩ := er.own i ds0 e0
          refine WS.of (ps_expr (pe_m1 PySem.F.plainAttrs_list PySem.F.slot_list_append PySem.F.type_list_append mt_append ho pa_wa h hn) rfl) ⟨.ref a0, k1, .inl ⟨rfl, vs0, .inl (.inl k3)⟩, da_one hn ha g er e1 fun u H1 o1 => ?_⟩
          obtain ⟨a1, vs1, g1, g2, g3, g4⟩ := o1.nx.er.own i ds e2
          rw [k1] at g1; cases g1
          exact ⟨a0, vs1, u, rfl, rfl, g3, by rw [DpAll.length g4]; exact hl, q _ _ (o1.nx.trans (setOwn_run o1.nx.er e2 k1 (DpAll.append g4 (.cons o1.dp .nil))))⟩
        · cases ef
      · cases ef
    · cases ef
  · cases ef
theorem ds_drop {fc : Expr} {args : List Expr} {kws : List Keyword} (ha : DE X pn (.Call fc args kws cp) false fa) : DS X pn fr rt (.Expr (.Call fc args kws cp) pos) (S.drop fa) := fun P ρ σ H fl ρ' D g er ef q => by
  obtain ⟨p, e1, e2⟩ := Option.map_eq_some_iff.mp ef
  cases e2
  exact WS.of (ps_expr pe_we rfl) (ha P ρ σ H p.1 p.2 _ g er e1 fun v H1 o => q _ _ o.nx)
/-! loops -/
theorem ds_for {tg it : Expr} {body : List Stmt} {fi : AV} {gv : GV} (hc : X.calm = true) (hx : PassesOwn (model X.prog X.w) X.A X.env X.xe) (hset : isSetD it = false) (hi : DI X pn tg it fi) (hg : DG X pn none tg gv) (hb : DSs X pn fr rt body fs) : DS X pn fr rt (.For tg it body [] pos) (S.for_ fi gv fs) := fun P ρ σ H fl ρ' D g er ef q => by
  unfold S.for_ at ef
  split at ef
  · rename_i ds ρ1 e1
    refine WS.of (ps_for hx hc pi_wi pg_wg pss_wss (folded_ok hset _)) (hi P ρ σ H ds ρ1 _ g er e1 fun J H1 n1 wk => ?_)
    have q1 := q.after n1
    refine ⟨fun i m σ2 H2 => ∃ ρ2, m + i = ds.length ∧ Nx X.K P ρ1 σ H1 ρ2 σ2 H2 ∧ S.forL gv fs (ds.drop i) ρ2 = some (fl, ρ'), ⟨ds.length, ρ1, rfl, Nx.refl n1.er, ef⟩, fun i m σ2 H2 ⟨ρ2, hm, n2, e2⟩ => ?_⟩
    obtain ⟨wk1, wk2⟩ := wk _ H2 n2.er.wok n2.sub i
    cases hd : ds[i]? with
    | none =>
      have hil := List.getElem?_eq_none_iff.mp hd
      rw [List.drop_eq_nil_of_le hil] at e2
      cases e2
      exact .inl ⟨wk2 hd, q1 σ2 H2 n2⟩
    | some d =>
      have hil : i < ds.length := (List.getElem?_eq_some_iff.mp hd).1
      have hdrop : ds.drop i = d :: ds.drop (i + 1) := by
        rw [List.drop_eq_getElem_cons hil]
        have := List.getElem?_eq_getElem hil
        rw [hd] at this
        rw [← Option.some.inj this]
      rw [hdrop] at e2
      obtain ⟨go, yl⟩ := wk1 d hd
      refine .inr ⟨go, fun σ3 H3 => ∃ ρ3, Nx X.K P ρ1 σ H1 ρ3 σ3 H3 ∧ S.forL gv fs (ds.drop (i + 1)) ρ3 = some (fl, ρ'), fun σ' H' ⟨ρ3, h1, h2⟩ => ⟨m - 1, by omega, ρ3, by omega, h1, h2⟩, fun x H3 hy => ?_⟩
      obtain ⟨s3, hx3⟩ := yl x H3 hy
      have n3 := n2.er.ext s3
      have e2 : (match gv d ρ2 with | some ρ1 => (match fs ρ1 with | some (.nx, ρ2) => S.forL gv fs (ds.drop (i + 1)) ρ2 | some (.ct, ρ2) => S.forL gv fs (ds.drop (i + 1)) ρ2 | some (.bk, ρ2) => some (.nx, ρ2) | some (.rt d, ρ2) => some (.rt d, ρ2) | none => none) | none => none) = some (fl, ρ') := e2
      split at e2
      · rename_i ρ4 e4
        refine hg P ρ2 σ2 H3 x d ρ4 _ g n3.er hx3 e4 fun σ4 n4 _ => ?_
        have n24 := n2.trans (n3.trans n4)
        split at e2
        · rename_i ρ5 e5
          exact hb P ρ4 σ4 H3 .nx ρ5 _ g n4.er e5 fun σ' H' n5 => ⟨ρ5, n24.trans n5, e2⟩
        · rename_i ρ5 e5
          exact hb P ρ4 σ4 H3 .ct ρ5 _ g n4.er e5 fun σ' H' n5 => ⟨ρ5, n24.trans n5, e2⟩
        · rename_i ρ5 e5
          cases e2
          exact hb P ρ4 σ4 H3 .bk _ _ g n4.er e5 fun σ' H' n5 => q1 σ' H' (n24.trans n5)
        · rename_i d5 ρ5 e5
          cases e2
          exact hb P ρ4 σ4 H3 (.rt d5) _ _ g n4.er e5 fun v σ' H' n5 r f => q1 v σ' H' (n24.trans n5) r fun z ds e => (f z ds e).dom n24
        · cases e2
      · cases e2
  · cases ef
theorem ds_while {tst : Expr} {t : TV} {body : List Stmt} (hx : PassesOwn (model X.prog X.w) X.A X.env X.xe) (ht : DT X pn tst t) (hb : DSs X pn fr rt body fs) : DS X pn fr rt (.While tst body [] pos) (S.while_ t fs) := fun P ρ σ H fl ρ' D g er ef q => by
  refine WS.of (ps_while hx pt_wt pss_wss) ⟨fun m σ2 H2 => ∃ ρ2, Nx X.K P ρ σ H ρ2 σ2 H2 ∧ S.whileL t fs m ρ2 = some (fl, ρ'), ⟨S.fuel, ρ, Nx.refl er, ef⟩, fun m σ2 H2 ⟨ρ2, n2, e2⟩ => ?_⟩
  cases m with
  | zero => cases e2
  | succ m =>
    have e2 : (match t ρ2 with | some (true, ρ1) => (match fs ρ1 with | some (.nx, ρ2) => S.whileL t fs m ρ2 | some (.ct, ρ2) => S.whileL t fs m ρ2 | some (.bk, ρ2) => some (.nx, ρ2) | some (.rt d, ρ2) => some (.rt d, ρ2) | none => none) | some (false, ρ1) => some (.nx, ρ1) | none => none) = some (fl, ρ') := e2
    split at e2
    · rename_i ρ3 e3
      refine ht P ρ2 σ2 H2 true ρ3 _ g n2.er e3 fun H3 n3 => ?_
      rw [if_pos rfl]
      have n23 := n2.trans n3
      refine ⟨fun σ4 H4 => ∃ ρ4, Nx X.K P ρ σ H ρ4 σ4 H4 ∧ S.whileL t fs m ρ4 = some (fl, ρ'), fun σ' H' h => ⟨m, Nat.lt_succ_self m, h⟩, ?_⟩
      split at e2
      · rename_i ρ5 e5
        exact hb P ρ3 σ2 H3 .nx ρ5 _ g n3.er e5 fun σ' H' n5 => ⟨ρ5, n23.trans n5, e2⟩
      · rename_i ρ5 e5
        exact hb P ρ3 σ2 H3 .ct ρ5 _ g n3.er e5 fun σ' H' n5 => ⟨ρ5, n23.trans n5, e2⟩
      · rename_i ρ5 e5
        cases e2
        exact hb P ρ3 σ2 H3 .bk _ _ g n3.er e5 fun σ' H' n5 => q σ' H' (n23.trans n5)
      · rename_i d5 ρ5 e5
        cases e2
        exact hb P ρ3 σ2 H3 (.rt d5) _ _ g n3.er e5 fun v σ' H' n5 r f => q v σ' H' (n23.trans n5) r fun z ds e => (f z ds e).dom n23
      · cases e2
    · rename_i ρ3 e3
      cases e2
      refine ht P ρ2 σ2 H2 false _ _ g n2.er e3 fun H3 n3 => ?_
      rw [if_neg Bool.false_ne_true]
      exact q σ2 H3 (n2.trans n3)
    · cases e2
end
end Dl

set_option maxRecDepth 100000
set_option maxHeartbeats 2000000
/-! Two stores at once; a name that is set to a comprehension. -/
namespace Dl
open PySem PySem.Spec L2
open PyProof.Rows hiding St

def starQ : Expr → Bool
  | .Starred .. => true
  | _ => false
theorem starQ_no {e : Expr} (h : noStar e = true) : starQ e = false := by cases e <;> first | rfl | cases h
def nameQ (env : Env) (line : Nat) : Expr → Option Str
  | .Name id pos => if env.kindOf id == some .local && pos.line == line then some id else none
  | _ => none
def swapCore (b : Bool) (star : Bool) (names : List Str) (f1 f2 : Bool) : Sem (Option (List Str)) :=
  if b = true then pure none else if star = true then pure none else
    if (names.length != 2 || names.eraseDups.length != names.length) = true then pure none else if f1 = true then pure none else if f2 = true then (do let _ ← (unsupported "assign.tuple-of-constant-expressions:order-of-the-stores" : Sem PUnit); pure (some names)) else pure (some names)
theorem swap_eq {env : Env} {x y : Str} {p q : Pos} {u v : Expr} {kt k2 : Nat} {pt pt2 : Pos} :
    swappedStores [.Tuple [.Name x p, .Name y q] kt pt] (.Tuple [u, v] k2 pt2) env =
      swapCore (env.blockKind != .function) ([u, v].any starQ) ([Expr.Name x p, Expr.Name y q].filterMap (nameQ env p.line)) ([u, v].all (foldedForSure 8)) ([u, v].all (constantsAlone 8)) := by
  rfl
theorem swapped_ok {c : Ct} {env : Env} {x y : Str} {p q : Pos} {u v : Expr} {kt k2 : Nat} {pt pt2 : Pos} (hk : env.scope.kind = .function) (hsc : env.scope = c.sc) (h : parB c (.Name x p) (.Name y q) u v = true) :
    swappedStores [.Tuple [.Name x p, .Name y q] kt pt] (.Tuple [u, v] k2 pt2) env = pure (some [x, y]) ∧ env.scope.names.lookup x = some .local ∧ env.scope.names.lookup y = some .local ∧ x ≠ y ∧ noStar u = true ∧ noStar v = true := by
  unfold parB at h
  obtain ⟨h, h8⟩ := and_tt h
  obtain ⟨h, h7⟩ := and_tt h
  obtain ⟨h, h6⟩ := and_tt h
  obtain ⟨h, h5⟩ := and_tt h
  obtain ⟨h, h4⟩ := and_tt h
  obtain ⟨h, h3⟩ := and_tt h
  obtain ⟨h1, h2⟩ := and_tt h
  have h1 := of_decide_eq_true h1
  have h2 := of_decide_eq_true h2
  have h3 := of_decide_eq_true h3
  refine ⟨?_, by rw [hsc]; exact h1, by rw [hsc]; exact h2, h3, h5, h6⟩
  have e1 : env.kindOf x = some .local := by show env.scope.names.lookup x = _; rw [hsc]; exact h1
  have e2 : env.kindOf y = some .local := by show env.scope.names.lookup y = _; rw [hsc]; exact h2
  have hb : (env.blockKind != .function) = false := by unfold Env.blockKind; rw [hk]; rfl
  have h7 : ([u, v].all (foldedForSure 8)) = false := by cases z : [u, v].all (foldedForSure 8) with | false => rfl | true => rw [z] at h7; cases h7
  have h8 : ([u, v].all (constantsAlone 8)) = false := by cases z : [u, v].all (constantsAlone 8) with | false => rfl | true => rw [z] at h8; cases h8
  have hq : (q.line == p.line) = true := h4
  have hst : [u, v].any starQ = false := by
    rw [List.any_cons, List.any_cons, starQ_no h5, starQ_no h6]; rfl
  have n1 : nameQ env p.line (.Name x p) = some x := by
    show (if (env.kindOf x == some .local && p.line == p.line) = true then some x else none) = some x
    rw [e1]; simp
  have n2 : nameQ env p.line (.Name y q) = some y := by
    show (if (env.kindOf y == some .local && q.line == p.line) = true then some y else none) = some y
    rw [e2, hq]; rfl
  have hn : [Expr.Name x p, Expr.Name y q].filterMap (nameQ env p.line) = [x, y] := by
    rw [List.filterMap_cons, n1, List.filterMap_cons, n2]; rfl
  have hd : ([x, y] : List Str).eraseDups.length = 2 := by
    have : (y == x) = false := beq_eq_false_iff_ne.mpr fun z => h3 z.symm
    simp [List.eraseDups_cons, this]
  rw [swap_eq, hb, hst, hn, h7, h8]
  unfold swapCore
  rw [hd]
  rfl

section
variable {K : PySem.W.Frag} {P P' : Pm} {ρ ρ1 ρ2 : Rho} {σ : SSt} {H H1 H2 : Hp} {i j : Nat} {ds : List D} {a : Addr} {vs : List V}
theorem own_set2 (lj : i < σ.length) {b : Addr} (w : Own (ρ.set i (.own ds)) (σ.set i (some (.ref a))) b) : Own ρ σ b ∨ b = a := by
  obtain ⟨k, y, q1, hy, q2⟩ := w
  by_cases z : i = k
  · subst z
    rw [get_set_self lj] at q2; cases q2
    exact .inr rfl
  · rw [get_set_ne z] at q1 q2
    exact .inl ⟨k, y, q1, hy, q2⟩
/-- an avoided new list is stored in a slot -/
theorem er_setOwn (e : ER K P' ρ σ H) (hT : P'.tb = P.tb) (hC : P'.C = P.C) (h0 : P'.H0 = P.H0) (hpi : P'.pins = P.pins) (hW : ∀ b, P'.W0 b ↔ P.W0 b ∨ b = a) (hl : H a = some (.lst vs)) (r : DpAll K (hid (Wr P' ρ σ) H) vs ds) (cp : P.C a) (nw0 : ¬ P.W0 a) (no : ¬ Own ρ σ a) (li : i < ρ.length) (hp : ∀ q ∈ P.pins, q.1 ≠ i) :
    ER K P (ρ.set i (.own ds)) (σ.set i (some (.ref a))) H ∧ ∀ b, Wr P (ρ.set i (.own ds)) (σ.set i (some (.ref a))) b → Wr P' ρ σ b := by
  have lj : i < σ.length := by rw [← e.len]; exact li
  have mono : ∀ b, Wr P (ρ.set i (.own ds)) (σ.set i (some (.ref a))) b → Wr P' ρ σ b := fun b w => by
    rcases w with w | w
    · exact .inl ((hW b).mpr (.inl w))
    · rcases own_set2 lj w with w | w
      · exact .inr w
      · exact .inl ((hW b).mpr (.inr w))
  have hs : Sub (hid (Wr P' ρ σ) H) (hid (Wr P (ρ.set i (.own ds)) (σ.set i (some (.ref a)))) H) := hid_mono mono
  refine ⟨⟨by simpa using e.len, fun k d' q => ?_, fun k x q hx => ?_, fun k l x y b q1 hx q2 hy q3 q4 => ?_, fun p w => e.w0 p ((hW p).mpr (.inl w)), fun p o h n => e.hist p o (by rw [h0]; exact h) (by rw [hC]; exact n), fun p h => by rw [← h0]; exact e.dom p h, fun q hq => ?_, fun k x b q1 hx q2 q3 w => ?_⟩, mono⟩
  · by_cases z : i = k
    · subst z; rw [get_set_self li] at q; cases q
    · rw [get_set_ne z] at q
      obtain ⟨u, r1, r2⟩ := e.val k d' q
      exact ⟨u, by rw [get_set_ne z]; exact r1, dp_sub hs _ _ r2⟩
  · by_cases z : i = k
    · subst z
      rw [get_set_self li] at q; cases q
      exact ⟨a, get_set_self lj, cp, vs, hl, dpAll_sub hs _ _ r⟩
    · rw [get_set_ne z] at q
      obtain ⟨b, r1, r2, r3⟩ := e.obj k x q hx
      rw [hT] at r3
      exact ⟨b, by rw [get_set_ne z]; exact r1, by rw [← hC]; exact r2, r3.mono hs fun _ z => z⟩
  · by_cases z : i = k
    · by_cases z' : i = l
      · omega
      · subst z
        rw [get_set_self lj] at q3; cases q3
        rw [get_set_ne z'] at q2 q4
        exact (no ⟨l, y, q2, hy, q4⟩).elim
    · by_cases z' : i = l
      · subst z'
        rw [get_set_self lj] at q4; cases q4
        rw [get_set_ne z] at q1 q3
        exact (no ⟨k, x, q1, hx, q3⟩).elim
      · rw [get_set_ne z] at q1 q3; rw [get_set_ne z'] at q2 q4
        exact e.sep k l x y b q1 hx q2 hy q3 q4
  · rw [get_set_ne fun z => hp q hq z.symm]
    exact e.pin q (by rw [hpi]; exact hq)
  · by_cases z : i = k
    · subst z
      rw [get_set_self lj] at q2; cases q2
      exact nw0 w
    · rw [get_set_ne z] at q1 q2
      exact e.nw k x b q1 hx q2 (by rw [hpi]; exact q3) ((hW b).mpr (.inl w))
end
theorem par_some {i j : Nat} {f1 f2 : Bool} {fa fb : EV} {ρ ρ' : Rho} {fl : Fl} (h : S.par i j f1 f2 fa fb ρ = some (fl, ρ')) : ∃ x ρ1 y ρ2, fa ρ = some (x, ρ1) ∧ fb ρ1 = some (y, ρ2) ∧ i ≠ j ∧ i < ρ2.length ∧ j < ρ2.length ∧ fl = .nx ∧ ρ' = (ρ2.set i (S.svOf f1 x)).set j (S.svOf f2 y) := by
  unfold S.par at h
  split at h
  · rename_i x ρ1 e1
    split at h
    · rename_i y ρ2 e2
      split at h
      · rename_i hb
        cases h
        obtain ⟨hb, h3⟩ := and_tt hb
        obtain ⟨h1, h2⟩ := and_tt hb
        exact ⟨x, ρ1, y, ρ2, e1, e2, of_decide_eq_true h1, of_decide_eq_true h2, of_decide_eq_true h3, rfl, rfl⟩
      · cases h
    · cases h
  · cases h
section
variable {X : Cx} {pn : List Nat} {fr rt : Bool} {e a b o : Expr} {pos pos2 pos3 : Pos} {fa fb : EV}
theorem par_core {i j : Nat} {f1 f2 : Bool} {P : Pm} {ρ ρ1 ρ2 : Rho} {σ : SSt} {H : Hp} {x y : Dl.D} {Q : List V → Hp → Prop} (g : Good (tbX X) P pn) (er : ER X.K P ρ σ H) (h4 : pn.contains i = false) (g4 : pn.contains j = false) (w5 : noStar a = true) (w6 : noStar b = true) (ha : DE X pn a f1 fa) (hbb : DE X pn b f2 fb)
    (e1 : fa ρ = some (x, ρ1)) (e2 : fb ρ1 = some (y, ρ2)) (hij : i ≠ j) (li : i < ρ2.length) (lj : j < ρ2.length) (q : ∀ v w H2, Nx X.K P ρ σ H ((ρ2.set i (S.svOf f1 x)).set j (S.svOf f2 y)) ((σ.set i (some v)).set j (some w)) H2 → Q [v, w] H2) : WA X [a, b] σ H Q := by
  refine WA.of (pa_cons pe_we (pa_cons pe_we pa_nil (star_cons w6)) (star_cons w5)) (ha P ρ σ H x ρ1 _ g er e1 fun v H1 o1 => ?_)
  rcases sv_cases f1 x with ⟨ds, rfl, rfl, es⟩ | es
  · -- the first is a new list
    obtain ⟨p, vs, rfl, hp0, hl, eav, r⟩ := o1.fr rfl ds rfl
    refine hbb (P.av p) ρ1 σ H1 y ρ2 _ ⟨g.ok.av, g.pin, g.tb⟩ eav e2 fun w H2 o2 => q _ _ _ ?_
    rw [es]
    have nD1 : ¬ Own ρ1 σ p := Fr.nown g.ok er eav hp0
    have hl2 : H2 p = some (.lst vs) := o2.nx.ev p _ hl nD1
    have r2 := o2.nx.keepAll r
    have n2 : Nx X.K P ρ σ H ρ2 σ H2 := o1.nx.trans o2.nx.unav
    have e2av := o2.nx.er
    have nD2 : ¬ Own ρ2 σ p := Fr.nown g.ok er e2av hp0
    have cp : P.C p := g.ok.fresh p (er.dom p hp0)
    have nw0 : ¬ P.W0 p := fun w => er.w0 p w hp0
    have fx : Fr X.K P ρ2 σ H H2 (.ref p) ds := ⟨p, vs, rfl, hp0, hl2, e2av, r2⟩
    have n3 : Nx X.K P ρ σ H (ρ2.set i (.own ds)) (σ.set i (some (.ref p))) H2 := Nx.setOwn g.ok er n2 fx li (g.free h4)
    rcases sv_cases f2 y with ⟨es2, rfl, rfl, ee⟩ | ee
    · rw [ee]
      obtain ⟨p2, us, rfl, hp2, hl3, eav2, r3⟩ := o2.fr rfl es2 rfl
      have hne : p ≠ p2 := fun z => by rw [← z, hl] at hp2; cases hp2
      have hp20 : H p2 = none := o1.nx.dom p2 hp2
      have nD2' : ¬ Own ρ2 σ p := nD2
      obtain ⟨e4, mono⟩ := er_setOwn (P := P.av p2) (P' := (P.av p).av p2) (a := p) (i := i) (ds := ds) (vs := vs) eav2 rfl rfl rfl rfl (fun b => ⟨fun w => by
        rcases w with (w | w) | w
        · exact .inl (.inl w)
        · exact .inr w
        · exact .inl (.inr w), fun w => by
        rcases w with (w | w) | w
        · exact .inl (.inl w)
        · exact .inr w
        · exact .inl (.inr w)⟩) hl2 (by
          -- what stood there ahead of the second new list does not read off it
          have : Sub (hid (Wr (P.av p) ρ1 σ) H1) (hid (Wr ((P.av p).av p2) ρ2 σ) H2) := fun z o hz => by
            have hz2 := o2.nx.sub z o hz
            obtain ⟨m1, m2⟩ := hid_some.mp hz2
            refine hid_some.mpr ⟨fun w => ?_, m2⟩
            rcases w with (w | w) | w
            · exact m1 (.inl w)
            · have := (hid_some.mp hz).2
              rw [w, hp2] at this; cases this
            · exact m1 (.inr w)
          exact dpAll_sub this _ _ r) cp (fun w => w.elim nw0 hne) nD2' li (g.free h4)
      have fy : Fr X.K P (ρ2.set i (.own ds)) (σ.set i (some (.ref p))) H H2 (.ref p2) es2 := ⟨p2, us, rfl, hp20, hl3, e4, dpAll_sub (hid_mono mono) _ _ r3⟩
      exact Nx.setOwn g.ok er n3 fy (by rw [List.length_set]; exact lj) (g.free g4)
    · rw [ee]
      have lσ : i < σ.length := by rw [← n2.er.len]; exact li
      have hy : Dp X.K (hid (Wr P (ρ2.set i (.own ds)) (σ.set i (some (.ref p)))) H2) w y := dp_sub (hid_mono fun b hb => by
        rcases hb with hb | hb
        · exact .inl (.inl hb)
        · rcases own_set2 lσ hb with hb | hb
          · exact .inr hb
          · exact .inl (.inr hb)) _ _ o2.dp
      exact n3.trans (n3.er.setVal (by rw [List.length_set]; exact lj) (g.free g4) hy)
  · refine hbb P ρ1 σ H1 y ρ2 _ g o1.nx.er e2 fun w H2 o2 => q _ _ _ ?_
    rw [es]
    have n2 : Nx X.K P ρ σ H ρ2 σ H2 := o1.nx.trans o2.nx
    have n3 : Nx X.K P ρ σ H (ρ2.set i (.val x)) (σ.set i (some v)) H2 := n2.trans (n2.er.setVal li (g.free h4) (o2.nx.keep o1.dp))
    rcases sv_cases f2 y with ⟨es2, rfl, rfl, ee⟩ | ee
    · rw [ee]
      obtain ⟨p2, us, rfl, hp2, hl3, eav2, r3⟩ := o2.fr rfl es2 rfl
      have hp20 : H p2 = none := o1.nx.dom p2 hp2
      have hx : Dp X.K (hid (Wr (P.av p2) ρ2 σ) H2) v x := by
        have : Sub (hid (Wr P ρ1 σ) H1) (hid (Wr (P.av p2) ρ2 σ) H2) := fun z o hz => by
          have hz2 := o2.nx.sub z o hz
          obtain ⟨m1, m2⟩ := hid_some.mp hz2
          refine hid_some.mpr ⟨fun w => ?_, m2⟩
          rcases w with (w | w) | w
          · exact m1 (.inl w)
          · have := (hid_some.mp hz).2
            rw [w, hp2] at this; cases this
          · exact m1 (.inr w)
        exact dp_sub this _ _ o1.dp
      have m := eav2.setVal (i := i) li (g.free h4) hx
      have fy : Fr X.K P (ρ2.set i (.val x)) (σ.set i (some v)) H H2 (.ref p2) es2 := ⟨p2, us, rfl, hp20, hl3, m.er, m.keepAll r3⟩
      exact Nx.setOwn g.ok er n3 fy (by rw [List.length_set]; exact lj) (g.free g4)
    · rw [ee]
      have m := n2.er.setVal (i := i) li (g.free h4) (o2.nx.keep o1.dp)
      exact n3.trans (n3.er.setVal (by rw [List.length_set]; exact lj) (g.free g4) (m.keep o2.dp))
theorem ds_par {c : Ct} {i j : Nat} {f1 f2 : Bool} {kt k2 : Nat} {t1 t2 : Expr} (k : Cok X c) (hpn : c.pn = pn) (hk : X.env.scope.kind = .function) (hs1 : storeSlot c t1 = some i) (hs2 : storeSlot c t2 = some j) (hb : parB c t1 t2 a b = true) (ha : DE X pn a f1 fa) (hbb : DE X pn b f2 fb) :
    DS X pn fr rt (.Assign [.Tuple [t1, t2] kt pos2] (.Tuple [a, b] k2 pos3) pos) (S.par i j f1 f2 fa fb) := fun P ρ σ H fl ρ' D g er ef q => by
  obtain ⟨x, ρ1, y, ρ2, e1, e2, hij, li, lj, rfl, rfl⟩ := par_some ef
  obtain ⟨x', p', ex, h1, h2, h3, h4⟩ := store_ok' k hs1
  obtain ⟨y', q', ey, g1, g2, g3, g4⟩ := store_ok' k hs2
  subst ex ey
  rw [hpn] at h4 g4
  obtain ⟨w1, w2, w3, w4, w5, w6⟩ := swapped_ok (kt := kt) (k2 := k2) (pt := pos2) (pt2 := pos3) hk k.sc hb
  refine WS.of (ps_par k.calm (by rw [k.N]; exact k.nd) h1 g1 hij w2 w3 pa_wa w1 rfl) ?_
  exact par_core g er h4 g4 w5 w6 ha hbb e1 e2 hij li lj fun v w H2 n => ⟨v, w, rfl, q _ _ n⟩
theorem swap_none {c : Ct} {env : Env} {x y : Str} {p q : Pos} {u v : Expr} {kt k2 : Nat} {pt pt2 : Pos} (hk : env.scope.kind = .function) (hsc : env.scope = c.sc) (h : parN c (.Name x p) (.Name y q) u v = true) :
    swappedStores [.Tuple [.Name x p, .Name y q] kt pt] (.Tuple [u, v] k2 pt2) env = pure none ∧ noStar u = true ∧ noStar v = true := by
  unfold parN at h
  obtain ⟨h, h3⟩ := and_tt h
  obtain ⟨h1, h2⟩ := and_tt h
  refine ⟨?_, h1, h2⟩
  have hb : (env.blockKind != .function) = false := by unfold Env.blockKind; rw [hk]; rfl
  have hst : [u, v].any starQ = false := by
    rw [List.any_cons, List.any_cons, starQ_no h1, starQ_no h2]; rfl
  by_cases hz : ([u, v].all (foldedForSure 8)) = true
  · rw [swap_eq, hb, hst, hz]
    unfold swapCore
    simp only [Bool.false_eq_true, if_false, if_true]
    split <;> rfl
  rw [Bool.not_eq_true] at hz
  rw [hz, Bool.or_false] at h3
  have kx : env.kindOf x = c.sc.names.lookup x := by rw [← hsc]; rfl
  have ky : env.kindOf y = c.sc.names.lookup y := by rw [← hsc]; rfl
  have h3 : (decide (c.sc.names.lookup x = some .local) && decide (c.sc.names.lookup y = some .local) && (q.line == p.line)) = false := by
    cases z : (decide (c.sc.names.lookup x = some .local) && decide (c.sc.names.lookup y = some .local) && (q.line == p.line)) with
    | false => rfl
    | true => rw [z] at h3; cases h3
  have n1 : nameQ env p.line (.Name x p) = if c.sc.names.lookup x = some .local then some x else none := by
    show (if (env.kindOf x == some .local && p.line == p.line) = true then some x else none) = _
    rw [kx]
    by_cases z : c.sc.names.lookup x = some .local
    · rw [z]; simp
    · have : (c.sc.names.lookup x == some .local) = false := beq_eq_false_iff_ne.mpr z
      rw [this, if_neg z]; rfl
  have n2 : nameQ env p.line (.Name y q) = if c.sc.names.lookup y = some .local ∧ (q.line == p.line) = true then some y else none := by
    show (if (env.kindOf y == some .local && q.line == p.line) = true then some y else none) = _
    rw [ky]
    by_cases z : c.sc.names.lookup y = some .local
    · rw [z]; simp
    · have : (c.sc.names.lookup y == some .local) = false := beq_eq_false_iff_ne.mpr z
      have e : ¬ (c.sc.names.lookup y = some .local ∧ (q.line == p.line) = true) := fun w => z w.1
      rw [this, if_neg e]; rfl
  have hl : ([Expr.Name x p, Expr.Name y q].filterMap (nameQ env p.line)).length ≠ 2 := by
    rw [List.filterMap_cons, n1, List.filterMap_cons, n2]
    by_cases z1 : c.sc.names.lookup x = some .local
    · by_cases z2 : c.sc.names.lookup y = some .local ∧ (q.line == p.line) = true
      · exfalso
        rw [decide_eq_true z1, decide_eq_true z2.1, z2.2] at h3
        cases h3
      · rw [if_pos z1, if_neg z2]; simp
    · by_cases z2 : c.sc.names.lookup y = some .local ∧ (q.line == p.line) = true
      · rw [if_neg z1, if_pos z2]; simp
      · rw [if_neg z1, if_neg z2]; simp
  rw [swap_eq, hb, hst]
  unfold swapCore
  have : (([Expr.Name x p, Expr.Name y q].filterMap (nameQ env p.line)).length != 2) = true := bne_iff_ne.mpr hl
  rw [this]
  rfl
theorem ds_par2 {c : Ct} {i j : Nat} {f1 f2 : Bool} {kt k2 : Nat} {t1 t2 : Expr} (k : Cok X c) (hpn : c.pn = pn) (hk : X.env.scope.kind = .function) (hs1 : storeSlot c t1 = some i) (hs2 : storeSlot c t2 = some j) (hb : parN c t1 t2 a b = true) (ha : DE X pn a f1 fa) (hbb : DE X pn b f2 fb) :
    DS X pn fr rt (.Assign [.Tuple [t1, t2] kt pos2] (.Tuple [a, b] k2 pos3) pos) (S.par i j f1 f2 fa fb) := fun P ρ σ H fl ρ' D g er ef q => by
  obtain ⟨x, ρ1, y, ρ2, e1, e2, hij, li, lj, rfl, rfl⟩ := par_some ef
  obtain ⟨x', p', ex, h1, h2, h3, h4⟩ := store_ok' k hs1
  obtain ⟨y', q', ey, g1, g2, g3, g4⟩ := store_ok' k hs2
  subst ex ey
  rw [hpn] at h4 g4
  obtain ⟨w1, w5, w6⟩ := swap_none (kt := kt) (k2 := k2) (pt := pos2) (pt2 := pos3) hk k.sc hb
  have nd : X.N.Nodup := by rw [k.N]; exact k.nd
  refine WS.of (ps_asg (pe_tup pa_wa) (pg_tup k.calm (pgs_cons (pg_name nd h1 h2 h3) (pgs_cons (pg_name nd g1 g2 g3) pgs_nil)) rfl rfl) rfl w1 rfl) ?_
  exact par_core g er h4 g4 w5 w6 ha hbb e1 e2 hij li lj fun v w H2 n => ⟨by show 2 ≤ sizeLine; decide, fun p hp => ⟨p, [v, w], rfl, .inl (.inl upd_same), rfl, v, [w], rfl, w, [], rfl, rfl, q _ _ (n.trans (n.er.ext (Sub.upd hp)))⟩⟩
/-- x = [.. for ..]: both ways the store may go -/
theorem ds_setLc {c : Ct} {i : Nat} {f : Bool} {x : Str} {elt tg it : Expr} {ifs : List Expr} {scope : Scope} {own : List (Str × Nat)} {fi : AV} {gv : GV} {tv : TV} {fe : EV} (k : Cok X c) (hpn : c.pn = pn) (hs : storeSlot c (.Name x pos2) = some i)
    (ok : BlkOk X.N X.env.scope scope own) (ho : ∀ p ∈ own, pn.contains p.2 = false) (hset : isSetD it = false) (hi : DI X pn tg it fi)
    (hg : ∀ s0 H0 C cl fp, DG (BX X scope s0 H0 C cl fp) pn (some (own.map (·.2))) tg gv) (ht : ∀ s0 H0 C cl fp, DTs (BX X scope s0 H0 C cl fp) pn ifs tv) (he : ∀ s0 H0 C cl fp, DE (BX X scope s0 H0 C cl fp) pn elt false fe) :
    DS X pn fr rt (.Assign [.Name x pos2] (.ListComp elt [⟨tg, it, ifs, 0⟩] scope pos3) pos) (S.asg i f (C.lc (own.map (·.2)) fi gv tv fe)) := fun P ρ σ H fl ρ' D g er ef q => by
  obtain ⟨d, ρ1, e1, li, rfl, rfl⟩ := asg_some ef
  obtain ⟨x', p', ex, h1, h2, h3, h4⟩ := store_ok' k hs
  cases ex
  rw [hpn] at h4
  have hN : X.N.Nodup := by rw [k.N]; exact k.nd
  have hq := de_lc (fr := f) k.calm hN ok ho hset hi hg ht he P ρ σ H d ρ1 (fun v H1 => D.nx (σ.set i (some v)) H1) g er e1 fun v H1 o => q _ _ (nx_store g h4 er o li)
  cases hsw : (X.env.blockKind == .function && X.env.kindOf x == some .local && pos2.line == pos3.line && !(scope.names.any fun (n, k) => n == x && (k == .local || k == .cell))) with
  | false =>
    exact WS.of (ps_set hN h1 h2 (pe_lcU k.calm hN ok hset) (show (pure _ : Sem Bool) = pure false from congrArg pure hsw) h3) hq
  | true =>
    have hl : X.env.scope.names.lookup x = some .local := by
      obtain ⟨hsw, _⟩ := and_tt hsw
      obtain ⟨hsw, _⟩ := and_tt hsw
      exact eq_of_beq (and_tt hsw).2
    exact WS.of (ps_setLcU k.calm hN h1 hl (show (pure _ : Sem Bool) = pure true from congrArg pure hsw) ok hset) hq
theorem de_lcE {elt tg it : Expr} {ifs : List Expr} {scope : Scope} {own : List (Str × Nat)} {fi : AV} {gv : GV} {tv : TV} {fe : EV} {c : Ct} (k : Cok X c)
    (ok : BlkOk X.N X.env.scope scope own) (ho : ∀ p ∈ own, pn.contains p.2 = false) (hset : isSetD it = false) (hi : DI X pn tg it fi)
    (hg : ∀ s0 H0 C cl fp, DG (BX X scope s0 H0 C cl fp) pn (some (own.map (·.2))) tg gv) (ht : ∀ s0 H0 C cl fp, DTs (BX X scope s0 H0 C cl fp) pn ifs tv) (he : ∀ s0 H0 C cl fp, DE (BX X scope s0 H0 C cl fp) pn elt false fe) :
    DE X pn (.ListComp elt [⟨tg, it, ifs, 0⟩] scope pos3) fr (C.lc (own.map (·.2)) fi gv tv fe) := fun P ρ σ H d ρ' Q g er ef q =>
  WE.of (pe_lcU k.calm (by rw [k.N]; exact k.nd) ok hset) (de_lc k.calm (by rw [k.N]; exact k.nd) ok ho hset hi hg ht he P ρ σ H d ρ' Q g er ef q)
end
end Dl

set_option maxRecDepth 100000
set_option maxHeartbeats 2000000
/-! Statements about tables: new, t[e] = e', return t, t = f(..). -/
namespace Dl
open PySem PySem.Spec L2
open PyProof.Rows hiding St
def swapCore3 (b : Bool) (star : Bool) (names : List Str) (f1 f2 : Bool) : Sem (Option (List Str)) :=
  if b = true then pure none else if star = true then pure none else
    if (names.length != 3 || names.eraseDups.length != names.length) = true then pure none else if f1 = true then pure none else if f2 = true then (do let _ ← (unsupported "assign.tuple-of-constant-expressions:order-of-the-stores" : Sem PUnit); pure (some names)) else pure (some names)
theorem swap3_eq {env : Env} {x y z : Str} {p q r : Pos} {d u v : Expr} {kt k2 : Nat} {pt pt2 : Pos} :
    swappedStores [.Tuple [.Name x p, .Name y q, .Name z r] kt pt] (.Tuple [d, u, v] k2 pt2) env =
      swapCore3 (env.blockKind != .function) ([d, u, v].any starQ) ([Expr.Name x p, Expr.Name y q, Expr.Name z r].filterMap (nameQ env p.line)) ([d, u, v].all (foldedForSure 8)) ([d, u, v].all (constantsAlone 8)) := by
  rfl
theorem swap3_none {c : Ct} {env : Env} {x y z : Str} {p q r : Pos} {u v : Expr} {kt k2 : Nat} {pt pt2 pd : Pos} (hsc : env.scope = c.sc) (h : triB c (.Name x p) [u, v] = true) :
    swappedStores [.Tuple [.Name x p, .Name y q, .Name z r] kt pt] (.Tuple [.Dict [] [] pd, u, v] k2 pt2) env = pure none ∧ noStar u = true ∧ noStar v = true := by
  obtain ⟨h1, h2⟩ := and_tt (show (!decide (c.sc.names.lookup x = some .local) && [u, v].all noStar) = true from h)
  have nu : noStar u = true := List.all_eq_true.mp h2 u (by simp)
  have nv : noStar v = true := List.all_eq_true.mp h2 v (by simp)
  refine ⟨?_, nu, nv⟩
  have nx : c.sc.names.lookup x ≠ some .local := by simpa using h1
  have kx : env.kindOf x = c.sc.names.lookup x := by rw [← hsc]; rfl
  have n1 : nameQ env p.line (.Name x p) = none := by
    show (if (env.kindOf x == some .local && p.line == p.line) = true then some x else none) = none
    rw [kx]
    have : (c.sc.names.lookup x == some .local) = false := beq_eq_false_iff_ne.mpr nx
    rw [this]; rfl
  have hl : ([Expr.Name x p, Expr.Name y q, Expr.Name z r].filterMap (nameQ env p.line)).length ≤ 2 := by
    rw [List.filterMap_cons, n1]
    exact List.length_filterMap_le ..
  have hne : (([Expr.Name x p, Expr.Name y q, Expr.Name z r].filterMap (nameQ env p.line)).length != 3) = true := bne_iff_ne.mpr (by omega)
  rw [swap3_eq]
  unfold swapCore3
  rw [hne]
  split
  · rfl
  · split <;> rfl
section
variable {X : Cx} {pn : List Nat} {fr rt : Bool} {e a b o : Expr} {es : List Expr} {pos pos2 pos3 pd : Pos} {fa fb : EV} {r : AV} {I : FnI} {k : Nat} {x : Str} {p : Pos}
theorem ds_setTab {i : Nat} {ix : Expr} (hu : X.A.units + 200 < cLine) (hs : isSlice ix = false) (ho : PE X o (tVar i)) (hb : DE X pn ix false fb) (ha : DE X pn e false fa) : DS X pn fr rt (.Assign [.Subscript o ix pos2] e pos) (S.setTab i fb fa) := fun P ρ σ H fl ρ' D g er ef q => by
  unfold S.setTab at ef
  split at ef
  · rename_i d ρ1 e1
    split at ef
    · rename_i e0
      obtain ⟨tab0, e0⟩ := isTab_some e0
      split at ef
      · rename_i kd ρ2 e2
        split at ef
        · rename_i tab nk e3 e4
          split at ef
          · rename_i hl
            cases ef
            refine WS.of (ps_asg pe_we (pg_sub ho pe_we (set_tab hu) (by intro v; cases ix <;> first | rfl | cases hs)) (by cases e <;> rfl) (by cases e <;> rfl) rfl) (ha P ρ σ H d ρ1 _ g er e1 fun v H1 o1 => ?_)
            obtain ⟨a0, t0, k1, _, _⟩ := tab_of_slot g o1.nx.er e0
            refine ⟨.ref a0, k1, hb P ρ1 σ H1 kd ρ2 _ g o1.nx.er e2 fun u H2 o2 => ?_⟩
            obtain ⟨a1, t, g1, g2, g3⟩ := tab_of_slot g o2.nx.er e3
            rw [k1] at g1; cases g1
            obtain ⟨b0, rfl⟩ := key_ref o2.dp e4
            have hl := of_decide_eq_true hl
            rw [g3.len, line_eq] at hl
            refine ⟨a0, b0, t, nk, kd, rfl, rfl, g2, g3.keysH hid_le, hl, e4, dp_sub hid_le _ _ o2.dp, q _ _ (o1.nx.trans (o2.nx.trans ?_))⟩
            have st : ∀ p o, H2 p = some o → p ≠ a0 → upd H2 a0 (TabO X.prog X.w a0 (putN t nk b0 v)) p = some o := fun p o hp hne => by rw [upd_ne hne]; exact hp
            have hsub : Sub (hid (Wr P ρ2 σ) H2) (hid (Wr P ρ2 σ) (upd H2 a0 (TabO X.prog X.w a0 (putN t nk b0 v)))) := hid_but (.inr ⟨i, _, e3, True.intro, k1⟩) st
            exact o2.nx.er.setObjAt e3 True.intro k1 st ⟨putN t nk b0 v, by rw [g.tb]; exact upd_same, (g3.sub hsub).put (keyT_some e4).2.1 (keyT_some e4).2.2 (dp_sub hsub _ _ o2.dp) (dp_sub hsub _ _ (o2.nx.keep o1.dp))⟩
          · cases ef
        · cases ef
      · cases ef
    · cases ef
  · cases ef
theorem ds_retTab {i : Nat} (hp : pn.contains i = false) (h : PE X e (tVar i)) : DS X pn fr true (.Return (some e) pos) (S.retTab i) := fun P ρ σ H fl ρ' D g er ef q => by
  unfold S.retTab at ef
  split at ef
  · rename_i tab e0
    cases ef
    obtain ⟨a0, t, h1, _, _⟩ := tab_of_slot g er e0
    exact WS.of (ps_ret h) ⟨.ref a0, h1, q _ _ _ (Nx.refl er) ⟨rfl, i, e0, h1, g.free hp⟩ fun _ _ z => by cases z⟩
  · cases ef
theorem asgTab_some {i : Nat} {ρ ρ' : Rho} {fl : Fl} (h : S.asgTab i I r ρ = some (fl, ρ')) : ∃ xs ρ1 kvs, r ρ = some (xs, ρ1) ∧ I.sem [] xs = some (.dict kvs, []) ∧ i < ρ1.length ∧ fl = .nx ∧ ρ' = ρ1.set i (.tab kvs) := by
  unfold S.asgTab at h
  split at h
  · rename_i xs ρ1 e1
    split at h
    · rename_i kvs e2 e3
      cases h
      exact ⟨xs, ρ1, kvs, e1, e2, of_decide_eq_true e3, rfl, rfl⟩
    · cases h
  · cases h
theorem ds_asgTab {c : Ct} {i : Nat} {y : Str} {py : Pos} (kk : Cok X c) (hpn : c.pn = pn) (hst : storeSlot c (.Name y py) = some i) (F : FnP X.prog X.w X.K X.mg X.base k x I) (ht : I.tab = true) (hs : I.star = false) (ho : I.own = false) (hr : Room k X.A) (hg : Gl X x) (hd : (x == ("__debug__" : Str)) = false)
    (hn : noStar e = true) (hm : es.all noStar = true) (ha : DA X pn (e :: es) r) (hsw : swapsWith (.Call (.Name x p) (e :: es) [] pos3) (some (.Name y py)) pos.line X.env = pure false) :
    DS X pn fr rt (.Assign [.Name y py] (.Call (.Name x p) (e :: es) [] pos3) pos) (S.asgTab i I r) := fun P ρ σ H fl ρ' D g er ef q => by
  obtain ⟨xs, ρ1, kvs, e1, e2, li, rfl, rfl⟩ := asgTab_some ef
  obtain ⟨x', p', ex, m1, m2, m3, m4⟩ := store_ok' kk hst
  cases ex
  rw [hpn] at m4
  obtain ⟨fa, h1, h2, _, h3⟩ := F.ex
  obtain ⟨fd, h3, h4, _⟩ := h3 hs
  have hl := F.len hs _ _ _ _ e2
  rw [ho] at hl
  refine WS.of (ps_set (by rw [kk.N]; exact kk.nd) m1 m2 (pe_call (dvs := []) (ds := []) (E := E0) h3 hr hg h1 h2 h4 .nil pass0 pa_wa hd (star_cons hn) (nostar_any hm)) hsw m3) (ha P ρ σ H xs ρ1 _ g er e1 fun vs H1 n h => ?_)
  show spF (tbX X) X.K I (vs ++ []) H1 _ E0
  unfold spF
  rw [ho, List.append_nil]
  refine ⟨Wr P ρ1 σ, xs, _, n.er.wok, h, by simpa using hl, e2, fun v H2 s => ?_⟩
  obtain ⟨pa, t, rfl, c1, c2, c3⟩ := s.tb ht kvs rfl
  refine q _ _ (Nx.setObj g.ok er (n.trans (n.er.ext s.sub)) ⟨pa, rfl, n.dom pa c1, n.er.av c1 s.sub (by rw [c2]; exact fun z => by cases z), t, by rw [g.tb]; exact c2, c3.sub (hid_mono fun z w => ?_)⟩ li (g.free m4))
  rcases w with (w | w) | w
  · exact .inl (.inl w)
  · exact .inr w
  · exact .inl (.inr w)
theorem newTab_some {i j l : Nat} {f1 f2 : Bool} {ρ ρ' : Rho} {fl : Fl} (h : S.newTab i j l f1 f2 fa fb ρ = some (fl, ρ')) : ∃ ρ1, i ≠ j ∧ i ≠ l ∧ i < ρ.length ∧ S.par j l f1 f2 fa fb ρ = some (.nx, ρ1) ∧ fl = .nx ∧ ρ' = ρ1.set i (.tab []) := by
  unfold S.newTab at h
  split at h
  · rename_i hb
    obtain ⟨hb, h3⟩ := and_tt hb
    obtain ⟨h1, h2⟩ := and_tt hb
    split at h
    · rename_i ρ1 e1
      cases h
      exact ⟨ρ1, of_decide_eq_true h1, of_decide_eq_true h2, of_decide_eq_true h3, e1, rfl, rfl⟩
    · cases h
  · cases h
theorem ds_newTab {c : Ct} {i j l : Nat} {f1 f2 : Bool} {kt k2 : Nat} {t0 t1 t2 : Expr} (k : Cok X c) (hpn : c.pn = pn) (hs0 : storeSlot c t0 = some i) (hs1 : storeSlot c t1 = some j) (hs2 : storeSlot c t2 = some l) (hb : triB c t0 [a, b] = true) (ha : DE X pn a f1 fa) (hbb : DE X pn b f2 fb) :
    DS X pn fr rt (.Assign [.Tuple [t0, t1, t2] kt pos2] (.Tuple [.Dict [] [] pd, a, b] k2 pos3) pos) (S.newTab i j l f1 f2 fa fb) := fun P ρ σ H fl ρ' D g er ef q => by
  obtain ⟨ρ3, nij, nil, li0, ep, rfl, rfl⟩ := newTab_some ef
  obtain ⟨x, ρ1, y, ρ2, e1, e2, hjl, lj, ll, _, rfl⟩ := par_some ep
  obtain ⟨x0, p0', ex0, d1, d2, d3, d4⟩ := store_ok' k hs0
  obtain ⟨x', p', ex, h1, h2, h3, h4⟩ := store_ok' k hs1
  obtain ⟨y', q', ey, g1, g2, g3, g4⟩ := store_ok' k hs2
  subst ex0 ex ey
  rw [hpn] at h4 g4 d4
  obtain ⟨w1, w5, w6⟩ := swap3_none (y := x') (z := y') (q := p') (r := q') (pd := pd) (kt := kt) (k2 := k2) (pt := pos2) (pt2 := pos3) k.sc hb
  have nd : X.N.Nodup := by rw [k.N]; exact k.nd
  refine WS.of (ps_asg (pe_tup (pa_cons pe_tabNew pa_wa (star_cons rfl))) (pg_tup k.calm (pgs_cons (pg_name nd d1 d2 d3) (pgs_cons (pg_name nd h1 h2 h3) (pgs_cons (pg_name nd g1 g2 g3) pgs_nil))) rfl rfl) rfl w1 rfl) ?_
  intro pt hpt
  have eav : ER X.K (P.av pt) ρ σ (upd H pt (TabO X.prog X.w pt [])) := er.av hpt (Sub.upd hpt) (by rw [upd_same]; exact fun z => by cases z)
  refine par_core (P := P.av pt) ⟨g.ok.av, g.pin, g.tb⟩ eav h4 g4 w5 w6 ha hbb e1 e2 hjl lj ll fun v w H2 n => ?_
  refine ⟨by show 3 ≤ sizeLine; decide, fun pu hp => ⟨pu, [.ref pt, v, w], rfl, .inl (.inl upd_same), rfl, _, _, rfl, v, [w], rfl, w, [], rfl, rfl, ?_⟩⟩
  have n2 := n.trans (n.er.ext (Sub.upd (o := .tup [.ref pt, v, w]) hp))
  have n0 : ¬ Own ρ σ pt := fun z => by
    obtain ⟨u, z⟩ := er.own_some z
    rw [hpt] at z; cases z
  have lρ : i < ((ρ2.set j (S.svOf f1 x)).set l (S.svOf f2 y)).length := by
    rw [n2.er.len, List.length_set, List.length_set, ← er.len]
    exact li0
  have fin := Nx.setObj (x := .tab []) g.ok er ((er.ext (Sub.upd hpt)).trans n2.unav) ⟨pt, rfl, hpt, n2.er, [], by rw [g.tb]; exact n2.ev pt _ upd_same n0, .nil⟩ lρ (g.free d4)
  have es : (((σ.set j (some v)).set l (some w)).set i (some (V.ref pt))) = (((σ.set i (some (V.ref pt))).set j (some v)).set l (some w)) := by
    rw [List.set_comm _ _ (Ne.symm nil), List.set_comm _ _ (Ne.symm nij)]
  rw [es] at fin
  exact q _ _ fin
end
end Dl

set_option maxRecDepth 100000
set_option maxHeartbeats 4000000
/-! The evaluator is sound, by induction on its fuel. -/
namespace Dl
open PySem PySem.Spec L2
open PyProof.Rows hiding St

structure Full (X : Cx) (c : Ct) : Prop extends Cok X c where
  room : ∃ k, Room k X.A ∧ ∀ x I, c.G x = some I → FnP X.prog X.w X.K X.mg X.base k x I
theorem Full.blk {X : Cx} {c : Ct} (F : Full X c) {scope : Scope} (s0 : Shared) (H0 : Hp) (C : Addr) (cl : List (Str × Addr)) (fp : List Addr) : Full (BX X scope s0 H0 C cl fp) (c.blk scope) where
  calm := F.calm
  N := F.N
  nd := F.nd
  sc := by
    show relS scope X.env.scope = relS scope c.sc
    rw [F.sc]
  un := F.un
  fn := rfl
  bl := F.bl
  room := F.room
theorem tabSlot_ok {X : Cx} {c : Ct} (k : Cok X c) {e : Expr} {i : Nat} (h : tabSlot c e = some i) : PE X e (tVar i) ∧ c.pn.contains i = false := by
  unfold tabSlot at h
  split at h
  · cases h
  · split at h
    · rename_i j hj
      split at h
      · rename_i hb
        cases h
        obtain ⟨_, h2⟩ := and_tt hb
        exact ⟨(name_ok k hj).1, by simpa using h2⟩
      · cases h
    · cases h
theorem dt_cmpV {X : Cx} {c : Ct} (k : Cok X c) {op : CmpOp} {a b : Expr} {pos : Pos} {fa fb : EV} (hm : behindInMarks op b = false) (ha : DE X c.pn a false fa) (hb : DE X c.pn b false fb) : DT X c.pn (.Compare a [op] [b] pos) (cmpV c op b fa fb) := by
  unfold cmpV
  split
  · rename_i i neg h1 h2
    exact dt_inTab k.un hm h2 ha (tabSlot_ok k h1).1
  · exact dt_cmp k.un hm ha hb
theorem de_cmpV {X : Cx} {c : Ct} (k : Cok X c) {op : CmpOp} {a b : Expr} {pos : Pos} {fr : Bool} {fa fb : EV} (hm : behindInMarks op b = false) (ha : DE X c.pn a false fa) (hb : DE X c.pn b false fb) : DE X c.pn (.Compare a [op] [b] pos) fr (C.ofT (cmpV c op b fa fb)) := by
  unfold cmpV
  split
  · rename_i i neg h1 h2
    exact de_inTab k.un hm h2 ha (tabSlot_ok k h1).1
  · exact de_cmp k.un hm ha hb
structure Snd (n : Nat) : Prop where
  E : ∀ X c e, Full X c → ∀ m, DE X c.pn e (frE m c e) (evE n c e)
  O : ∀ X c o, Full X c → DO X c.pn o (evO n c o)
  A : ∀ X c es, Full X c → DA X c.pn es (evA n c es)
  T : ∀ X c e, Full X c → DT X c.pn e (evT n c e)
  Ts : ∀ X c ifs, Full X c → DTs X c.pn ifs (evTs n c ifs)
  I : ∀ X c tg e, Full X c → DI X c.pn tg e (evI n c tg e)
  G : ∀ X c vs tg, Full X c → DG X c.pn vs tg (evG n c vs tg)
  C : ∀ X c f args kws p pos, Full X c → ∀ m, DE X c.pn (.Call (.Name f p) args kws pos) (frE m c (.Call (.Name f p) args kws pos)) (evC n c f args kws)
theorem snd_zero : Snd 0 where
  E := fun X c e F m => by
    have h : evE 0 c e = C.fail := by unfold evE; rfl
    rw [h]; exact de_fail
  O := fun X c e F => by
    have h : evO 0 c e = C.fail := by unfold evO; rfl
    rw [h]; exact do_fail
  A := fun X c e F => by
    have h : evA 0 c e = C.fail := by unfold evA; rfl
    rw [h]; exact da_fail
  T := fun X c e F => by
    have h : evT 0 c e = C.fail := by unfold evT; rfl
    rw [h]; exact dt_fail
  Ts := fun X c e F => by
    have h : evTs 0 c e = C.fail := by unfold evTs; rfl
    rw [h]; exact dts_fail
  I := fun X c tg e F => by
    have h : evI 0 c tg e = C.fail := by unfold evI; rfl
    rw [h]; exact di_fail
  G := fun X c vs tg F => by
    have h : evG 0 c vs tg = fun _ _ => none := by unfold evG; rfl
    rw [h]; exact dg_fail
  C := fun X c f args kws p pos F m => by
    have h : evC 0 c f args kws = C.fail := by unfold evC; rfl
    rw [h]; exact de_fail
section
variable {n : Nat}
theorem snd_O (S : Snd n) : ∀ X c o, Full X c → DO X c.pn o (evO (n + 1) c o) := fun X c o F => by
  cases o with
  | none => rw [evO]; exact do_none
  | some e => rw [evO]; exact do_some (S.E X c e F 0).weak
theorem snd_A (S : Snd n) : ∀ X c es, Full X c → DA X c.pn es (evA (n + 1) c es) := fun X c es F => by
  have h : evA (n + 1) c es = argsL (es.map (argOf (evE n c))) := by
    rw [evA]
    congr 1
  rw [h]
  exact da_args (fun e => (S.E X c e F 0).weak) es
theorem snd_T (S : Snd n) : ∀ X c e, Full X c → DT X c.pn e (evT (n + 1) c e) := fun X c e F => by
  have E : ∀ e, DE X c.pn e false (evE n c e) := fun e => (S.E X c e F 0).weak
  unfold evT
  split
  · exact dt_not (S.T X c _ F)
  · exact dt_dw (dw_andL fun e _ => S.T X c e F)
  · exact dt_dw (dw_orL fun e _ => S.T X c e F)
  · split
    · rename_i hm
      exact dt_cmpV F.toCok hm (E _) (E _)
    · exact dt_fail
  · split
    · rename_i hm
      exact dt_chain F.un hm (E _) (E _) (E _)
    · exact dt_fail
  · split
    · rename_i hp
      exact dt_test hp (E _)
    · exact dt_fail
theorem snd_Ts (S : Snd n) : ∀ X c ifs, Full X c → DTs X c.pn ifs (evTs (n + 1) c ifs) := fun X c ifs F => by
  unfold evTs
  split
  · exact dts_nil
  · exact dts_one (S.T X c _ F)
  · exact dts_fail
theorem snd_G (S : Snd n) : ∀ X c vs tg, Full X c → DG X c.pn vs tg (evG (n + 1) c vs tg) := fun X c vs tg F => by
  unfold evG
  split
  · split
    · rename_i i hi
      split
      · rename_i hv
        exact dg_name F.toCok hi hv rfl
      · exact dg_fail
    · exact dg_fail
  · split
    · rename_i hn
      exact dg_tup F.calm hn fun t _ => S.G X c vs t F
    · exact dg_fail
  · exact dg_fail
theorem snd_I (S : Snd n) : ∀ X c tg e, Full X c → DI X c.pn tg e (evI (n + 1) c tg e) := fun X c tg e F => by
  have E : ∀ e, DE X c.pn e false (evE n c e) := fun e => (S.E X c e F 0).weak
  unfold evI
  split
  · rename_i f p a q
    split
    · rename_i _ h1 h2
      obtain ⟨h1, hn⟩ := and_tt h1
      exact di_range1 (blt_ok F.toCok h1) (of_decide_eq_true h2) hn (E _)
    · rename_i h1 h2 _
      obtain ⟨h1, hn⟩ := and_tt h1
      split
      · exact di_enum (blt_ok F.toCok h1) (of_decide_eq_true h2) hn (E _)
      · exact di_fail
    · exact di_iter (E _)
  · rename_i f p a b q
    split
    · rename_i _ h1 h2
      obtain ⟨h1, hm⟩ := and_tt h1
      obtain ⟨h1, hn⟩ := and_tt h1
      exact di_range2 (blt_ok F.toCok h1) (of_decide_eq_true h2) hn hm (E _) (E _)
    · rename_i h1 h2 _
      obtain ⟨h1, hm⟩ := and_tt h1
      obtain ⟨h1, hn⟩ := and_tt h1
      split
      · exact di_zip (blt_ok F.toCok h1) (of_decide_eq_true h2) hn hm (E _) (E _)
      · exact di_fail
    · exact di_iter (E _)
  · rename_i f p a b d q
    split
    · rename_i h1 h2
      obtain ⟨h1, hk⟩ := and_tt h1
      obtain ⟨h1, hm⟩ := and_tt h1
      obtain ⟨h1, hn⟩ := and_tt h1
      split
      · exact di_zip3 (blt_ok F.toCok h1) (of_decide_eq_true h2) hn hm hk (E _) (E _) (E _)
      · exact di_fail
    · exact di_iter (E _)
  · exact di_iter (E _)
/-- the slots of a comprehension's own names -/
theorem lc_ok {X : Cx} {c : Ct} (F : Full X c) {scope : Scope} {it : Expr} (h : (blkC c.N c.sc scope (ownSlots c.N scope) && ((ownSlots c.N scope).all fun p => !c.pn.contains p.2) && !isSetD it) = true) :
    BlkOk X.N X.env.scope scope (ownSlots c.N scope) ∧ (∀ p ∈ ownSlots c.N scope, c.pn.contains p.2 = false) ∧ isSetD it = false := by
  obtain ⟨h, h3⟩ := and_tt h
  obtain ⟨h1, h2⟩ := and_tt h
  refine ⟨by rw [F.N, F.sc]; exact blkOk_by h1, fun p hp => ?_, ?_⟩
  · have := List.all_eq_true.mp h2 p hp
    cases z : c.pn.contains p.2 with
    | false => rfl
    | true => rw [z] at this; cases this
  · cases z : isSetD it with
    | false => rfl
    | true => rw [z] at h3; cases h3
theorem frE_name (m : Nat) (c : Ct) (x : Str) (p : Pos) : frE m c (.Name x p) = false := by cases m <;> rfl
theorem frE_sub (m : Nat) (c : Ct) (a i : Expr) (p : Pos) : frE m c (.Subscript a i p) = false := by cases m <;> rfl
theorem frE_ifx (m : Nat) (c : Ct) (t a b : Expr) (p : Pos) : frE m c (.IfExp t a b p) = false := by cases m <;> rfl
theorem frE_and (m : Nat) (c : Ct) (vs : List Expr) (p : Pos) : frE m c (.BoolOp .And vs p) = false := by cases m <;> rfl
theorem frE_met (m : Nat) (c : Ct) (o : Expr) (x : Str) (ap p : Pos) (as : List Expr) : frE m c (.Call (.Attribute o x ap) as [] p) = false := by cases m <;> rfl
theorem snd_E (S : Snd n) : ∀ X c e, Full X c → ∀ m, DE X c.pn e (frE m c e) (evE (n + 1) c e) := fun X c e F m => by
  have E : ∀ e, DE X c.pn e false (evE n c e) := fun e => (S.E X c e F 0).weak
  unfold evE
  split
  · exact de_const
  · rename_i x p
    split
    · rename_i i hi
      obtain ⟨hn, _⟩ := name_ok F.toCok hi
      rw [frE_name]
      split
      · exact de_varV hn
      · rename_i hp
        exact de_var hn hp
    · exact de_fail
  · exact de_repL (S.A X c _ F) (E _)
  · exact de_op (E _) (E _)
  · exact de_notT (E _)
  · exact de_un1 unD (E _)
  · rw [frE_and]
    exact de_andV fun e _ => E e
  · rename_i vs p
    cases hf : frE m c (.BoolOp .Or vs p) with
    | false => exact de_orV fun e _ => E e
    | true =>
      cases m with
      | zero => cases hf
      | succ m =>
        refine de_orV fun e he => ?_
        have := List.all_eq_true.mp (show vs.all (frE m c) = true from hf) e he
        have h := S.E X c e F m
        rw [this] at h
        exact h
  · split
    · rename_i hm
      exact de_cmpV F.toCok hm (E _) (E _)
    · exact de_fail
  · split
    · rename_i hm
      exact de_chain F.un hm (E _) (E _) (E _)
    · exact de_fail
  · rw [frE_ifx]
    exact de_ifx (S.T X c _ F) (E _) (E _)
  · exact de_tup (S.A X c _ F)
  · exact de_lst (S.A X c _ F)
  · exact de_sl (E _) (S.O X c _ F) (S.O X c _ F)
  · exact de_rev (E _)
  · rw [frE_sub]
    split
    · exact de_fail
    · rename_i hs
      split
      · rename_i k hk
        exact de_subTab F.un (plain_ix hs) (tabSlot_ok F.toCok hk).1 (E _)
      · split
        · rename_i k hk
          obtain ⟨hn, _⟩ := name_ok F.toCok hk
          exact de_subOwn hs hn (E _)
        · exact de_ix hs (E _) (E _)
  · split
    · rename_i h
      obtain ⟨h1, h2, h3⟩ := lc_ok F h
      exact de_lcE F.toCok h1 h2 h3 (S.I X c _ _ F) (fun s0 H0 C cl fp => S.G _ _ _ _ (F.blk s0 H0 C cl fp)) (fun s0 H0 C cl fp => S.Ts _ _ _ (F.blk s0 H0 C cl fp)) fun s0 H0 C cl fp => (S.E _ _ _ (F.blk s0 H0 C cl fp) 0).weak
    · exact de_fail
  · exact S.C X c _ _ _ _ _ F m
  · rw [frE_met]
    split
    · rename_i h
      obtain ⟨h1, h2⟩ := and_tt h
      split
      · rename_i i hi hp
        obtain ⟨hn, _⟩ := name_ok F.toCok hi
        rw [of_decide_eq_true hp]
        exact de_popOwn h1 h2 hn (E _)
      · split
        · rename_i f hf
          unfold mts1 at hf
          simp only [List.lookup] at hf
          split at hf
          · rename_i hm
            cases hf
            rw [eq_of_beq hm]
            exact de_count F.un h1 h2 (E _) (E _)
          · split at hf
            · rename_i hm
              cases hf
              rw [eq_of_beq hm]
              exact de_join h1 h2 (E _) (E _)
            · cases hf
        · exact de_fail
    · exact de_fail
  · exact de_fail
end
end Dl

set_option maxRecDepth 100000
set_option maxHeartbeats 4000000
/-! The evaluator is sound: calls; all of it. -/
namespace Dl
open PySem PySem.Spec L2
open PyProof.Rows hiding St
theorem frE_call {m : Nat} {c : Ct} {f : Str} {p pos : Pos} {as : List Expr} {kws : List Keyword} {I : FnI} (hG : c.G f = some I) (h : frE m c (.Call (.Name f p) as kws pos) = true) : kws = [] ∧ I.fr = true ∧ I.own = false ∧ I.star = false := by
  cases m with
  | zero => cases h
  | succ m =>
    cases kws with
    | cons => cases h
    | nil =>
      have h : ((bltB c f && (decide (f = "list") || decide (f = "sorted")) && decide (as.length = 1)) || (match c.G f with | some I => I.fr && !I.own && !I.star | none => false)) = true := h
      have hb : bltB c f = false := by
        unfold bltB
        rw [hG]
        simp
      rw [hb, hG] at h
      have h : (I.fr && !I.own && !I.star) = true := h
      obtain ⟨h, h3⟩ := and_tt h
      obtain ⟨h1, h2⟩ := and_tt h
      exact ⟨rfl, h1, by simpa using h2, by simpa using h3⟩
theorem frE_no {m : Nat} {c : Ct} {e : Expr} (h : ¬ frE m c e = true) : frE m c e = false := by
  cases z : frE m c e with
  | false => rfl
  | true => exact absurd z h
section
variable {n : Nat}
theorem blt1_ok {X : Cx} {c : Ct} {fr : Bool} (F : Full X c) (S : Snd n) {f : Str} {p pos : Pos} {a : Expr} {o : D → Option D} (hb : bltB c f = true) (hn : noStar a = true) (ho : fns1.lookup f = some o) : DE X c.pn (.Call (.Name f p) [a] [] pos) fr (C.un1 o (evE n c a)) := by
  have E : DE X c.pn a false (evE n c a) := (S.E X c a F 0).weak
  have g := blt_ok F.toCok hb
  unfold fns1 at ho
  simp only [List.lookup] at ho
  split at ho
  · rename_i e; cases ho; cases eq_of_beq e; exact de_blt1 fn_len g boot_len hn E
  · split at ho
    · rename_i e; cases ho; cases eq_of_beq e; exact de_blt1 fn_abs g (by rfl) hn E
    · split at ho
      · rename_i e; cases ho; cases eq_of_beq e; exact de_ty1 fn_int g (by rfl) hn E
      · split at ho
        · rename_i e; cases ho; cases eq_of_beq e; exact de_ty1 (fn_tuple F.calm) g (by rfl) hn E
        · split at ho
          · rename_i e; cases ho; cases eq_of_beq e; exact de_ty1 (fn_list F.calm) g (by rfl) hn E
          · split at ho
            · rename_i e; cases ho; cases eq_of_beq e; exact de_blt1 (fn_sum F.calm) g (by rfl) hn E
            · split at ho
              · rename_i e; cases ho; cases eq_of_beq e; exact de_blt1 (fn_any F.calm) g (by rfl) hn E
              · split at ho
                · rename_i e; cases ho; cases eq_of_beq e; exact de_blt1 (fn_all F.calm) g (by rfl) hn E
                · split at ho
                  · rename_i e; cases ho; cases eq_of_beq e; exact de_blt1 (fn_min F.calm) g (by rfl) hn E
                  · split at ho
                    · rename_i e; cases ho; cases eq_of_beq e; exact de_blt1 (fn_max F.calm) g (by rfl) hn E
                    · split at ho
                      · rename_i e; cases ho; cases eq_of_beq e; exact de_blt1 (fn_sorted F.un) g (by rfl) hn E
                      · cases ho
theorem blt2_ok {X : Cx} {c : Ct} {fr : Bool} (F : Full X c) (S : Snd n) {f : Str} {p pos : Pos} {a b : Expr} {o : D → D → Option D} (hb : bltB c f = true) (hn : noStar a = true) (hm : noStar b = true) (ho : fns2.lookup f = some o) : DE X c.pn (.Call (.Name f p) [a, b] [] pos) fr (C.bin o (evE n c a) (evE n c b)) := by
  have E : ∀ a, DE X c.pn a false (evE n c a) := fun a => (S.E X c a F 0).weak
  have g := blt_ok F.toCok hb
  unfold fns2 at ho
  simp only [List.lookup] at ho
  split at ho
  · rename_i e; cases ho; cases eq_of_beq e; exact de_blt2 (fn_min2 F.calm) g (by rfl) hn hm (E _) (E _)
  · split at ho
    · rename_i e; cases ho; cases eq_of_beq e; exact de_blt2 (fn_max2 F.calm) g (by rfl) hn hm (E _) (E _)
    · cases ho
theorem snd_C (S : Snd n) : ∀ X c f args kws p pos, Full X c → ∀ m, DE X c.pn (.Call (.Name f p) args kws pos) (frE m c (.Call (.Name f p) args kws pos)) (evC (n + 1) c f args kws) := fun X c f args kws p pos F m => by
  have E : ∀ e, DE X c.pn e false (evE n c e) := fun e => (S.E X c e F 0).weak
  obtain ⟨k, hr, hG⟩ := F.room
  unfold evC
  split
  · exact de_fail
  · rename_i h0
    obtain ⟨h0, hst⟩ := and_tt h0
    obtain ⟨h1, h2⟩ := and_tt h0
    have hg := glo_ok F.toCok h1
    have hd := (odd_ok (x := f) (by simpa using h2)).1
    have first : ∀ {a : Expr} {r : List Expr}, (a :: r).all noStar = true → noStar a = true ∧ r.all noStar = true := fun h => and_tt h
    split
    · rename_i I hI
      have P := hG f I hI
      split
      · -- def f(*xs)
        rename_i a r ht h3 h4
        obtain ⟨s1, s2⟩ := first hst
        have hf : frE m c (.Call (.Name f p) (a :: r) [] pos) = false := frE_no fun z => by
          have := (frE_call hI z).2.2.2
          rw [h3] at this; cases this
        rw [hf]
        exact de_callS P ht h3 hr hg hd s1 s2 (S.A X c _ F)
      · rename_i a r ht h3 h4
        obtain ⟨s1, s2⟩ := first hst
        have hf : frE m c (.Call (.Name f p) (a :: r) [] pos) = false := frE_no fun z => by
          have := (frE_call hI z).2.2.1
          rw [h4] at this; cases this
        rw [hf]
        split
        · rename_i i hi
          obtain ⟨hn, _⟩ := name_ok F.toCok hi
          exact de_callO P h3 h4 hr hg hd s1 s2 hn (S.A X c _ F)
        · exact de_fail
      · rename_i ht h3 h4
        obtain ⟨s1, s2⟩ := first hst
        exact de_call P ht h3 h4 hr hg hd s1 s2 (fun z => (frE_call hI z).2.1) (S.A X c _ F)
      · rename_i ht h3 h4
        exact de_call0 P ht h3 h4 hr hg hd fun z => (frE_call hI z).2.1
      · rename_i ht h3 h4
        split
        · rename_i js hj hk
          exact de_callK P ht h3 h4 hr hg hd hj hk (fun z => (frE_call hI z).2.1) E
        · exact de_fail
      · exact de_fail
    · split
      · rename_i a hb
        obtain ⟨s1, _⟩ := first hst
        split
        · rename_i i hi hs
          exact de_sortTab F.calm F.un (blt_ok F.toCok hb) (of_decide_eq_true hs) s1 (tabSlot_ok F.toCok hi).1
        rename_i hno
        clear hno
        split
        · rename_i g q b q2 hs
          split
          · rename_i hb2
            obtain ⟨hb2, hn2⟩ := and_tt hb2
            obtain ⟨hb2, hg2⟩ := and_tt hb2
            exact de_soSet F.calm F.un (blt_ok F.toCok hb) (of_decide_eq_true hs) (blt_ok F.toCok hb2) (of_decide_eq_true hg2) hn2 (E _)
          · cases of_decide_eq_true hs
            exact de_blt1 (fn_sorted F.un) (blt_ok F.toCok hb) (by rfl) s1 (E _)
        · split
          · rename_i i hl hi
            cases of_decide_eq_true hl
            obtain ⟨hn, _⟩ := name_ok F.toCok hi
            exact de_lenOwn (blt_ok F.toCok hb) s1 hn
          · split
            · rename_i o ho
              exact blt1_ok F S hb s1 ho
            · exact de_fail
      · rename_i a b hb
        obtain ⟨s1, s2⟩ := first hst
        have s2 := (first s2).1
        split
        · rename_i ts hx hts
          exact de_isi F.toCok (blt_ok F.toCok hb) (of_decide_eq_true hx) s1 s2 hts (E _)
        · split
          · rename_i o ho
            exact blt2_ok F S hb s1 s2 ho
          · exact de_fail
      · exact de_fail
theorem snd_all : ∀ n, Snd n
  | 0 => snd_zero
  | n + 1 => by
    have S := snd_all n
    exact ⟨snd_E S, snd_O S, snd_A S, snd_T S, snd_Ts S, snd_I S, snd_G S, snd_C S⟩
end
end Dl

set_option maxRecDepth 100000
set_option maxHeartbeats 4000000
/-! Statements and defs: the evaluator is sound. -/
namespace Dl
open PySem PySem.Spec L2
open PyProof.Rows hiding St

theorem evE_lcN {n : Nat} {c : Ct} {e : Expr} (h : (match e with | .SetComp .. => true | .DictComp .. => true | _ => false) = true) : evE n c e = C.fail := by
  cases n with
  | zero => unfold evE; rfl
  | succ n => cases e <;> first | exact absurd h Bool.false_ne_true | (unfold evE; rfl)
def isComp : Expr → Bool
  | .ListComp .. => true
  | .SetComp .. => true
  | .DictComp .. => true
  | _ => false
theorem swaps_no {e : Expr} {x : Str} {p : Pos} {l : Nat} {env : Env} (h : isComp e = false) : swapsWith e (some (.Name x p)) l env = pure false := by
  cases e <;> first | rfl | cases h
theorem tabFn_ok {c : Ct} {f : Str} {I : FnI} (h : tabFn c f = some I) : c.G f = some I ∧ I.tab = true ∧ I.own = false ∧ I.star = false := by
  unfold tabFn at h
  split at h
  · rename_i J hJ
    split at h
    · rename_i hb
      cases h
      obtain ⟨hb, h3⟩ := and_tt hb
      obtain ⟨h1, h2⟩ := and_tt hb
      exact ⟨hJ, h1, by simpa using h2, by simpa using h3⟩
    · cases h
  · cases h
theorem asg_fail {i : Nat} {f : Bool} {X : Cx} {pn : List Nat} {fr rt : Bool} {st : Stmt} : DS X pn fr rt st (S.asg i f C.fail) := fun P ρ σ H fl ρ' D g er ef q => by cases ef
theorem snd_S : ∀ n : Nat, ∀ X c, Full X c → X.env.scope.kind = .function → PassesOwn (model X.prog X.w) X.A X.env X.xe → (∀ st, DS X c.pn c.fr c.rt st (evS n c st)) ∧ (∀ sts, DSs X c.pn c.fr c.rt sts (evZ n c sts))
  | 0 => fun X c F hk hx => ⟨fun st => by
      have h : evS 0 c st = C.fail := by unfold evS; rfl
      rw [h]; exact ds_fail, fun sts => by
      have h : evZ 0 c sts = C.fail := by unfold evZ; rfl
      rw [h]; exact dss_fail⟩
  | n + 1 => fun X c F hk hx => by
    obtain ⟨ih1, ih2⟩ := snd_S n X c F hk hx
    have Sn := snd_all n
    have E : ∀ e, DE X c.pn e false (evE n c e) := fun e => (Sn.E X c e F 0).weak
    refine ⟨fun st => ?_, fun sts => ?_⟩
    · unfold evS
      split
      · exact ds_pass
      · exact ds_break
      · exact ds_cont
      · split
        · rename_i hf
          rw [hf]
          exact ds_retN
        · exact ds_fail
      · rename_i e p
        split
        · rename_i i hi hr
          obtain ⟨hn, hp⟩ := tabSlot_ok F.toCok hi
          rw [hr]
          exact ds_retTab hp hn
        rename_i hno
        clear hno
        split
        · rename_i hf
          have h := Sn.E X c e F n
          cases z : c.fr with
          | false => exact ds_ret h.weak
          | true =>
            rw [z] at hf
            have hf : frE n c e = true := by simpa using hf
            rw [hf] at h
            exact ds_ret h
        · exact ds_fail
      · exact ds_if (Sn.T X c _ F) (ih2 _) (ih2 _)
      · split
        · rename_i hs
          exact ds_for F.calm hx hs (Sn.I X c _ _ F) (Sn.G X c none _ F) (ih2 _)
        · exact ds_fail
      · exact ds_while hx (Sn.T X c _ F) (ih2 _)
      · rename_i x p f q a r q2 pos
        split
        · rename_i I i hI hi
          split
          · rename_i hb
            obtain ⟨hb, h3⟩ := and_tt hb
            obtain ⟨h1, h2⟩ := and_tt hb
            obtain ⟨hG, i1, i2, i3⟩ := tabFn_ok hI
            obtain ⟨k, hr, hF⟩ := F.room
            obtain ⟨s1, s2⟩ := and_tt (show (noStar a && r.all noStar) = true from h3)
            exact ds_asgTab F.toCok rfl hi (hF f I hG) i1 i3 i2 hr (glo_ok F.toCok h1) (odd_ok (x := f) (by simpa using h2)).1 s1 s2 (Sn.A X c _ F) (swaps_no rfl)
          · exact ds_fail
        · rename_i i hI hi
          exact ds_set F.toCok rfl hi (Sn.E X c _ F n) (swaps_no rfl)
        · exact ds_fail
      · rename_i a b d k p p2 u v k' p' pos
        split
        · rename_i i j l hi hj hl hb
          exact ds_newTab F.toCok rfl hi hj hl hb (Sn.E X c _ F n) (Sn.E X c _ F n)
        · exact ds_fail
      · rename_i x p v pos _
        split
        · rename_i i hi
          cases hc : isComp v with
          | false => exact ds_set F.toCok rfl hi (Sn.E X c v F n) (swaps_no hc)
          | true =>
            cases v with
            | SetComp a b s q => rw [evE_lcN (e := .SetComp a b s q) rfl]; exact asg_fail
            | DictComp a b g s q => rw [evE_lcN (e := .DictComp a b g s q) rfl]; exact asg_fail
            | ListComp elt gens scope q =>
              cases n with
              | zero =>
                have h : evE 0 c (.ListComp elt gens scope q) = C.fail := by unfold evE; rfl
                rw [h]; exact asg_fail
              | succ m =>
                have Sm := snd_all m
                generalize frE (m + 1) c (.ListComp elt gens scope q) = ff
                unfold evE
                split
                all_goals first
                  | exact asg_fail
                  | (rename_i e0; cases e0)
                  | skip
                · split
                  · rename_i h
                    obtain ⟨h1, h2, h3⟩ := lc_ok F h
                    exact ds_setLc F.toCok rfl hi h1 h2 h3 (Sm.I X c _ _ F) (fun s0 H0 C cl fp => Sm.G _ _ _ _ (F.blk s0 H0 C cl fp)) (fun s0 H0 C cl fp => Sm.Ts _ _ _ (F.blk s0 H0 C cl fp)) fun s0 H0 C cl fp => (Sm.E _ _ _ (F.blk s0 H0 C cl fp) 0).weak
                  · exact asg_fail
            | _ => cases hc
        · exact ds_fail
      · split
        · rename_i i j hi hj hb
          rcases Bool.or_eq_true_iff.mp hb with hb | hb
          · exact ds_par F.toCok rfl hk hi hj hb (Sn.E X c _ F n) (Sn.E X c _ F n)
          · exact ds_par2 F.toCok rfl hk hi hj hb (Sn.E X c _ F n) (Sn.E X c _ F n)
        · exact ds_fail
      · split
        · rename_i ht
          exact ds_asgG ht (E _) (Sn.G X c none _ F)
        · exact ds_fail
      · split
        · rename_i k _ hk2 hs
          exact ds_setTab F.un hs (tabSlot_ok F.toCok (by assumption)).1 (E _) (E _)
        · rename_i k _ hk2 hs
          obtain ⟨hn, _⟩ := name_ok F.toCok hk2
          exact ds_setItem hs hn (E _) (E _)
        · exact ds_fail
      · split
        · rename_i i hi
          exact ds_aug F.toCok rfl hi (E _)
        · exact ds_fail
      · split
        · rename_i i hi hb
          obtain ⟨hb, h3⟩ := and_tt hb
          obtain ⟨h1, h2⟩ := and_tt hb
          obtain ⟨hn, _⟩ := name_ok F.toCok hi
          cases of_decide_eq_true h1
          exact ds_append h3 h2 hn (E _)
        · exact ds_fail
      · exact ds_drop (E _)
      · exact ds_fail
    · unfold evZ
      exact dss_all fun st _ => ih1 st
end Dl

set_option maxRecDepth 100000
set_option maxHeartbeats 4000000
/-! Statements that raise the own error. -/
namespace Dl
open PySem PySem.Spec L2
open PyProof.Rows hiding St
section
variable {X : Cx}
/-- C(), C an own error class without own __init__ -/
theorem pmk_none {C : Addr} {bmB : List Value} {B newId initId : String} {x : Str} {p pos : Pos} (F : ExcBaseFacts B newId initId bmB) (q : PySem.W.excIn X.K C bmB newId = true) (gC : X.mg x = some (.ref C)) (kC : PySem.W.keepIn X.K (.ref C) = true) (r : Raises X (.ref C)) (hg : Gl X x)
    (hdb : (x == ("__debug__" : Str)) = false) : PMk X (.Call (.Name x p) [] [] pos) (fun _ H Q => Q (.ref C) none H) := by
  intro pins s σ H Q I h
  refine wpAny_Call_Name_kw (ld_glob I hg gC ?_ hdb)
  refine PySem.W.callWith_K0 I.kIn kC ?_
  obtain ⟨bm, N, nm, qn, bs, hdct, sn, sub, ab, col, dd, k0, k1, k2, k3, k5, mN, hC, hN, hni, T⟩ := exc_obj I.kIn q
  obtain ⟨hp, g, d, tk, os⟩ := s
  exact wpAny_call_exc_subT F T hC hN hni (fun h' e hm => mk_of I hm r h (I.hok.gone hm.new)) (Nat.zero_le _)
theorem Passes.at {X : Cx} {W : WX} (tk : Takes X W) (σ : SSt) : PassesAt (L2.CX X.prog X.w) X σ (L2.WE W σ) := passAt tk σ
/-- a call of a star def that raises -/
theorem run_star {pins : List (Addr × Obj)} {σ : SSt} {H : Hp} {s : Shared} {k : Nat} {f : Addr} {sp : Sp} {W : WX} {Q : VK} {us : List Value} {vs : List V} (F : FnR X.prog X.w X.K X.mg X.base (L2.CX X.prog X.w) k f sp) (hr : Room k X.A) (tk : Takes X W) (I : Inv X pins σ H s) (r : Vals vs us) (h : sp vs H Q (L2.WE W σ)) :
    wpAny (model X.prog X.w) X.A (call (.ref f) us) (EP X pins σ Q) X.xe s := by
  refine wpAny_call (codeAny_mono (F X.A X.stack s H us vs Q (L2.WE W σ) hr I.env0 r h) fun r s' hq => ?_)
  cases r with
  | error e => exact passAt tk σ pins H s e s' I hq
  | ok fl =>
    cases fl with
    | ret u => exact I.after hq
    | next => exact False.elim hq
    | brk => exact False.elim hq
    | cont => exact False.elim hq
variable {c : Ct} {n : Nat}
/-- what raises raises -/
theorem rz_sound (F : Full X c) (hk : X.env.scope.kind = .function) (hx : PassesOwn (model X.prog X.w) X.A X.env X.xe) {W : WX} (tk : Takes X W) {C : Addr} (xo : ExcOk X.K X.mg C) {P : Pm} {ρ0 : Rho} {σ0 : SSt} {H0 : Hp} (g : Good (tbX X) P c.pn)
    (q : ∀ ρ' σ' H' H'', Nx X.K P ρ0 σ0 H0 ρ' σ' H' → Sub H' H'' → W (.ref C) none σ' H'') (D : Ends) : ∀ (sts : List Stmt) (ρ : Rho) (σ : SSt) (H : Hp), Nx X.K P ρ0 σ0 H0 ρ σ H → rzZ n c sts ρ = true → WSs X sts D σ H
  | [], ρ, σ, H, n0, h => by
    unfold rzZ at h
    cases h
  | s :: rest, ρ, σ, H, n0, h => by
    have Sn := snd_all n
    unfold rzZ at h
    split at h
    · rename_i e0; cases e0
    · rename_i ρ _ _ f p a r pos pos2 rest' e0
      cases e0
      split at h
      · rename_i I h0 hI
        obtain ⟨h0, hst⟩ := and_tt h0
        obtain ⟨h1, h2⟩ := and_tt h0
        obtain ⟨s1, s2⟩ := and_tt (show (noStar a && r.all noStar) = true from hst)
        obtain ⟨k, hr, hG⟩ := F.room
        have hg := glo_ok F.toCok h1
        have hd := (odd_ok (x := f) (by simpa using h2)).1
        split at h
        · rename_i xs ρ1 ho e1
          obtain ⟨fa, g1, g2, g3, g4⟩ := (hG f I hI).rz C xo ho
          refine WSs.of (pss_cons ps_ws pss_wss) ?_
          split at h
          · rename_i hs
            obtain ⟨hl, hz⟩ := and_tt h
            have hl := of_decide_eq_true hl
            have hp : PE X (.Call (.Name f p) (a :: r) [] pos) (fun σ H Q => WA X (a :: r) σ H fun vs H1 => spRS X.K I C vs H1 Q (L2.WE W σ)) := by
              refine ⟨fun pins s σ H Q J h => ?_⟩
              refine wpAny_Call_Name_kw (ld_glob J hg g1 ?_ hd)
              refine PySem.W.callWith_K (h₀ := X.base) J.ok.mod.kin g2 (thn (h pos pins s J) fun us s1 ⟨vs, H1, I1, r, q⟩ => ⟨I1.kIn, ?_⟩) (star_cons s1) (nostar_any s2)
              exact run_star (g3 hs) hr tk I1 r q
            exact WS.of (ps_expr hp rfl) (Sn.A X c (a :: r) F P ρ σ H xs ρ1 _ g n0.er e1 fun vs H1 m hh => ⟨Wr P ρ1 σ, xs, m.er.wok, hh, hl, hz, fun H' sb => q ρ1 σ H1 H' (n0.trans m) sb⟩)
          · rename_i hs
            obtain ⟨hl, hz⟩ := and_tt h
            have hl := of_decide_eq_true hl
            obtain ⟨fd, g5, g6⟩ := g4 hs
            exact WS.of (ps_expr (pe_callS g5 hr hg g1 g2 g6 (fun σ => passAt tk σ) pa_wa hd (star_cons s1) (nostar_any s2)) rfl) (Sn.A X c (a :: r) F P ρ σ H xs ρ1 _ g n0.er e1 fun vs H1 m hh => ⟨Wr P ρ1 σ, xs, m.er.wok, hh, hl, hz, fun H' sb => q ρ1 σ H1 H' (n0.trans m) sb⟩)
        · cases h
      · cases h
    · rename_i ρ _ _ t x p pos p2 p3 rest' e0
      cases e0
      split at h
      · rename_i ρ1 e1 hn
        obtain ⟨hn, hgl⟩ := and_tt hn
        have hn := of_decide_eq_true hn
        subst hn
        refine WSs.of (pss_cons ps_ws pss_wss) (WS.of (ps_if pt_wt pss_wss pss_wss) (Sn.T X c t F P ρ σ H true ρ1 _ g n0.er e1 fun H1 m => ?_))
        exact WSs.of (pss_one (ps_raise F.calm tk (pmk_none PySem.F.excBase_ValueError xo.x xo.g xo.k (raises_own xo.b xo.t) (glo_ok F.toCok hgl) (by decide)))) (q ρ1 σ H1 H1 (n0.trans m) Sub.refl)
      · cases h
    · rename_i ρ _ _ s' rest' _ _ e0
      cases e0
      split at h
      · rename_i ρ1 e1
        refine WSs.of (pss_cons ps_ws pss_wss) ((snd_S n X c F hk hx).1 s P ρ σ H .nx ρ1 _ g n0.er e1 fun σ1 H1 m => ?_)
        exact rz_sound F hk hx tk xo g q D rest ρ1 σ1 H1 (n0.trans m) h
      · cases h
end
end Dl

set_option maxRecDepth 100000
set_option maxHeartbeats 4000000
/-! Every def of the text is as the evaluator says, at every level. -/
namespace Dl
open PySem PySem.Spec L2
open PyProof.Rows hiding St

def ctOf (G : GT) (B : List Str) (d : Df) : Ct := ⟨G, d.sc, d.N, match d.own with | true => [0] | false => [], B, d.fr, fun _ => true, d.tabs, d.tab⟩
theorem semOf_eq (G : GT) (B : List Str) (d : Df) : semOf G B d = runDef d.own d.ps.length d.N.length (evZ 60 (ctOf G B d) d.body) := rfl
theorem run_len {own : Bool} {np nl : Nat} {body : ZV} {os xs : List D} {d : D} {out : List D} (h : runDef own np nl body os xs = some (d, out)) : xs.length + (if own then 1 else 0) = np := by
  unfold runDef at h
  split at h
  · split at h
    · rename_i e _
      exact of_decide_eq_true e
    · rename_i e _
      exact of_decide_eq_true e
    · cases h
  · split at h
    · rename_i e _
      exact of_decide_eq_true e
    · rename_i e _
      exact of_decide_eq_true e
    · cases h
  · cases h
theorem run_plain {np nl : Nat} {body : ZV} {xs : List D} {d : D} {out : List D} (h : runDef false np nl body [] xs = some (d, out)) : out = [] ∧ ∃ fl ρ', body (xs.map .val ++ List.replicate (nl - np) .un) = some (fl, ρ') ∧ (fl = .rt d ∨ (fl = .nx ∧ d = .none)) := by
  unfold runDef at h
  split at h
  · rename_i e; cases e
  · split at h
    · rename_i e2
      cases h
      exact ⟨rfl, _, _, e2, .inl rfl⟩
    · rename_i e2
      cases h
      exact ⟨rfl, _, _, e2, .inr ⟨rfl, rfl⟩⟩
    · cases h
  · rename_i e; cases e
theorem run_own {np nl : Nat} {body : ZV} {os xs : List D} {d : D} {out : List D} (h : runDef true np nl body os xs = some (d, out)) : ∃ fl r, body (.own os :: xs.map .val ++ List.replicate (nl - np) .un) = some (fl, .own out :: r) ∧ (fl = .rt d ∨ (fl = .nx ∧ d = .none)) := by
  unfold runDef at h
  split at h
  · split at h
    · rename_i e2
      cases h
      exact ⟨_, _, e2, .inl rfl⟩
    · rename_i e2
      cases h
      exact ⟨_, _, e2, .inr ⟨rfl, rfl⟩⟩
    · cases h
  · rename_i e; cases e
  · rename_i e; cases e

structure DefOk (K : PySem.W.Frag) (mg : Str → Option Value) (d : Df) : Prop where
  nt : d.own = true → d.tab = false
  sc : FnScope d.N d.ps d.sc
  ex : ∃ (f : Addr) (fd : FuncData) (args : Arguments), mg d.name = some (.ref f) ∧ FunD K d.name d.name args d.body d.sc [] [] f fd ∧
    (d.star = false → (∀ (kV doc pm : Value) (an : Option Addr) (cdv ct : Value) (us : List Value), us.length = d.ps.length → bindArgs (PySem.W.fnOf d.name d.name args d.body d.sc .none kV doc pm an cdv ct) ⟨us, []⟩ = pure (d.ps.zip us)) ∧
      ∀ ks ∈ d.kw, ∀ js, permOf d.ps (ks.map some) = some js → ∀ (kV doc pm : Value) (an : Option Addr) (cdv ct : Value) (ws : List Value), ws.length = ks.length → bindArgs (PySem.W.fnOf d.name d.name args d.body d.sc .none kV doc pm an cdv ct) ⟨[], ks.zip ws⟩ = pure (d.ps.zip (pickL js ws))) ∧
    (d.star = true → d.own = false ∧ ∃ pv, d.ps = [pv] ∧ ∀ (kV doc pm : Value) (an : Option Addr) (cdv ct : Value) (rest : List Value), bindArgs (PySem.W.fnOf d.name d.name args d.body d.sc .none kV doc pm an cdv ct) ⟨rest, []⟩ = (newTuple rest >>= fun t => pure [(pv, t)]))

section
variable {P : Program} {w : World} {K : PySem.W.Frag} {mg : Str → Option Value} {base : Heap}
abbrev defCx (P : Program) (w : World) (K : PySem.W.Frag) (mg : Str → Option Value) (base : Heap) (d : Df) (f : Addr) (cdv : Value) (A : Around) (outer : List Env) (s : Shared) (H : Hp) (E : XK) : Cx := (cxOf CX0 P w K mg base d.N d.name d.sc f cdv A outer s H E).nox
abbrev defCxX (P : Program) (w : World) (K : PySem.W.Frag) (mg : Str → Option Value) (base : Heap) (d : Df) (f : Addr) (cdv : Value) (A : Around) (outer : List Env) (s : Shared) (H : Hp) (E : XK) : Cx := cxOf (L2.CX P w) P w K mg base d.N d.name d.sc f cdv A outer s H E
theorem def_fullX {d : Df} {G : GT} {B : List Str} {k : Nat} {f : Addr} {cdv : Value} {A : Around} {outer : List Env} {s : Shared} {H : Hp} {E : XK} (S : FnScope d.N d.ps d.sc) (hr : Room k (A.deeper (envOfC d.name d.sc s.heap.objs.size f cdv))) (hB : ∀ x, B.contains x = true → mg x = none)
    (hG : ∀ x I, G x = some I → FnP P w K mg base k x I) : Full (defCxX P w K mg base d f cdv A outer s H E) (ctOf G B d) where
  calm := rfl
  N := rfl
  nd := S.nd
  sc := rfl
  un := by
    have := hr.un
    show (A.deeper (envOfC d.name d.sc s.heap.objs.size f cdv)).units + 200 < cLine
    omega
  fn := rfl
  bl := hB
  room := ⟨k, hr, hG⟩
theorem def_full {d : Df} {G : GT} {B : List Str} {k : Nat} {f : Addr} {cdv : Value} {A : Around} {outer : List Env} {s : Shared} {H : Hp} {E : XK} (S : FnScope d.N d.ps d.sc) (hr : Room k (A.deeper (envOfC d.name d.sc s.heap.objs.size f cdv))) (hB : ∀ x, B.contains x = true → mg x = none)
    (hG : ∀ x I, G x = some I → FnP P w K mg base k x I) : Full (defCx P w K mg base d f cdv A outer s H E) (ctOf G B d) where
  calm := rfl
  N := rfl
  nd := S.nd
  sc := rfl
  un := by
    have := hr.un
    show (A.deeper (envOfC d.name d.sc s.heap.objs.size f cdv)).units + 200 < cLine
    omega
  fn := rfl
  bl := hB
  room := ⟨k, hr, hG⟩
theorem vals_get_some {ds : List D} {vs : List V} {W : Addr → Prop} {H : Hp} {i m : Nat} {x : SV} (h : DpAll K (hid W H) vs ds) (e : (ds.map SV.val ++ List.replicate m .un)[i]? = some x) (hne : x ≠ .un) : ∃ d v, x = .val d ∧ vs[i]? = some v ∧ Dp K (hid W H) v d := by
  by_cases hi : i < ds.length
  · rw [List.getElem?_append_left (by simpa using hi), List.getElem?_map] at e
    obtain ⟨d, hd, rfl⟩ := Option.map_eq_some_iff.mp e
    obtain ⟨v, hv, r⟩ := DpAll.get h hd
    exact ⟨d, v, rfl, hv, r⟩
  · rw [List.getElem?_append_right (by simpa using hi), List.getElem?_replicate] at e
    split at e
    · cases e; exact absurd rfl hne
    · cases e
theorem start_get {N : List Str} {vs : List V} {i : Nat} {v : V} (h : vs[i]? = some v) : (L2.start N vs)[i]? = some (some v) := by
  have hi : i < vs.length := (List.getElem?_eq_some_iff.mp h).1
  unfold L2.start
  rw [List.getElem?_append_left (by simpa using hi), List.getElem?_map, h]
  rfl
/-- a plain def's start: its slots are as its arguments -/
theorem start_plain {T : TB} {N ps : List Str} {W : Addr → Prop} {H : Hp} {vs : List V} {ds : List D} (hpre : ps.length ≤ N.length) (w : Wok W H) (h : DpAll K (hid W H) vs ds) (hl : ds.length = ps.length) :
    ER K ⟨fun p => H p = none, H, W, [], T⟩ (ds.map SV.val ++ List.replicate (N.length - ps.length) .un) (L2.start N vs) H ∧ ∀ p, ¬ Own (ds.map SV.val ++ List.replicate (N.length - ps.length) .un) (L2.start N vs) p := by
  have hvl : vs.length = ds.length := DpAll.length h
  have nown : ∀ p, ¬ Own (ds.map SV.val ++ List.replicate (N.length - ps.length) .un) (L2.start N vs) p := fun p ⟨i, x, h1, hx, _⟩ => by
    obtain ⟨d1, v, z, _⟩ := vals_get_some h h1 (by intro z; rw [z] at hx; exact hx)
    rw [z] at hx; exact hx
  have noO : ∀ {i : Nat} {x : SV}, (ds.map SV.val ++ List.replicate (N.length - ps.length) .un)[i]? = some x → x.isO → False := fun {i x} h1 hx => by
    obtain ⟨d1, v, z, _⟩ := vals_get_some h h1 (by intro z; rw [z] at hx; exact hx)
    rw [z] at hx; exact hx
  have wr : ∀ p, Wr ⟨fun p => H p = none, H, W, [], T⟩ (ds.map SV.val ++ List.replicate (N.length - ps.length) .un) (L2.start N vs) p → W p := fun p z => z.elim id fun z => absurd z (nown p)
  refine ⟨⟨?_, fun i d1 h1 => ?_, fun i x h1 hx => (noO h1 hx).elim, fun i j x y a h1 hx => (noO h1 hx).elim, w, fun p o hp n => hp, fun p hp => hp, fun q hq => (List.not_mem_nil hq).elim, fun i x a h1 hx => (noO h1 hx).elim⟩, nown⟩
  · unfold L2.start
    simp only [List.length_append, List.length_map, List.length_replicate]
    omega
  · obtain ⟨d2, v, z, hv, r⟩ := vals_get_some h h1 (by intro z; cases z)
    cases z
    exact ⟨v, start_get hv, dp_sub (hid_mono wr) _ _ r⟩
/-- a plain def's body raises -/
theorem body_raise {d : Df} {G : GT} {B : List Str} {X : Cx} {Wx : WX} {C : Addr} {W : Addr → Prop} {H : Hp} {vs : List V} {ds : List D} {D0 : Ends} (F : Full X (ctOf G B d)) (hk : X.env.scope.kind = .function) (hx : PassesOwn (model X.prog X.w) X.A X.env X.xe) (tk : Takes X Wx) (xo : ExcOk X.K X.mg C) (S : FnScope d.N d.ps d.sc)
    (w : Wok W H) (h : DpAll X.K (hid W H) vs ds) (hl : ds.length = d.ps.length) (hz : rzOf G B d ds = true) (q : ∀ σ' H', Sub H H' → Wx (.ref C) none σ' H') : WSs X d.body D0 (L2.start d.N vs) H := by
  unfold rzOf at hz
  split at hz
  · cases hz
  · rename_i ho
    obtain ⟨_, hz⟩ := and_tt hz
    have hpl : d.ps.length ≤ d.N.length := by have := congrArg List.length S.pre; rw [List.length_take] at this; omega
    obtain ⟨er, nown⟩ := start_plain (T := tbX X) hpl w h hl
    have hc : ctOf G B d = ⟨G, d.sc, d.N, [], B, d.fr, fun _ => true, d.tabs, d.tab⟩ := by
      unfold ctOf
      rw [ho]
    rw [hc] at F
    exact rz_sound F hk hx tk xo ⟨⟨fun p hp => hp, fun q hq => (List.not_mem_nil hq).elim⟩, fun q hq => (List.not_mem_nil hq).elim, rfl⟩ (fun ρ' σ' H' H'' n sb => q σ' H'' (Sub.trans (fun p o hp => n.ev p o hp (nown p)) sb)) D0 d.body _ _ H (Nx.refl er) hz
theorem body_plain {d : Df} {G : GT} {B : List Str} {X : Cx} {W : Addr → Prop} {H : Hp} {vs : List V} {ds : List D} {dd : D} {out : List D} {Q : VK} (F : Full X (ctOf G B d)) (hk : X.env.scope.kind = .function) (hx : PassesOwn (model X.prog X.w) X.A X.env X.xe) (S : FnScope d.N d.ps d.sc) (ho : d.own = false)
    (w : Wok W H) (h : DpAll X.K (hid W H) vs ds) (hl : ds.length = d.ps.length) (hs : semOf G B d [] ds = some (dd, out)) (q : ∀ v H', RS (tbX X) d.fr d.tab X.K W H H' v dd → Q v H') : WSs X d.body { nx := fun _ H' => Q .non H', rt := Q } (L2.start d.N vs) H := by
  rw [semOf_eq, ho] at hs
  obtain ⟨_, fl, ρ', e, ef⟩ := run_plain hs
  have hvl : vs.length = ds.length := DpAll.length h
  have hpl : d.ps.length ≤ d.N.length := by have := congrArg List.length S.pre; rw [List.length_take] at this; omega
  let Pm0 : Pm := ⟨fun p => H p = none, H, W, [], tbX X⟩
  have nown : ∀ p, ¬ Own (ds.map SV.val ++ List.replicate (d.N.length - d.ps.length) .un) (L2.start d.N vs) p := fun p ⟨i, x, h1, hx, _⟩ => by
    obtain ⟨d1, v, z, _⟩ := vals_get_some h h1 (by intro z; rw [z] at hx; exact hx)
    rw [z] at hx; exact hx
  have wr : ∀ p, Wr Pm0 (ds.map SV.val ++ List.replicate (d.N.length - d.ps.length) .un) (L2.start d.N vs) p → W p := fun p z => z.elim id fun z => absurd z (nown p)
  have er : ER X.K Pm0 (ds.map SV.val ++ List.replicate (d.N.length - d.ps.length) .un) (L2.start d.N vs) H := by
    refine ⟨?_, fun i d1 h1 => ?_, fun i x h1 hx => ?_, fun i j x y a h1 hx => ?_, w, fun p o hp n => hp, fun p hp => hp, fun q hq => (List.not_mem_nil hq).elim, fun i x a h1 hx => ?_⟩
    · unfold L2.start
      simp only [List.length_append, List.length_map, List.length_replicate]
      omega
    · obtain ⟨d2, v, z, hv, r⟩ := vals_get_some h h1 (by intro z; cases z)
      cases z
      exact ⟨v, start_get hv, dp_sub (hid_mono wr) _ _ r⟩
    · obtain ⟨d2, v, z, _⟩ := vals_get_some h h1 (by intro z; rw [z] at hx; exact hx)
      rw [z] at hx; exact hx.elim
    · obtain ⟨d2, v, z, _⟩ := vals_get_some h h1 (by intro z; rw [z] at hx; exact hx)
      rw [z] at hx; exact hx.elim
    · obtain ⟨d2, v, z, _⟩ := vals_get_some h h1 (by intro z; rw [z] at hx; exact hx)
      rw [z] at hx; exact hx.elim
  have g : Good (tbX X) Pm0 (ctOf G B d).pn := ⟨⟨fun p hp => hp, fun q hq => (List.not_mem_nil hq).elim⟩, fun q hq => (List.not_mem_nil hq).elim, rfl⟩
  refine (snd_S 60 X (ctOf G B d) F hk hx).2 d.body Pm0 _ _ H fl ρ' _ g er e ?_
  have mono : ∀ (ρ : Rho) (σ : SSt) (p : Addr), W p → Wr Pm0 ρ σ p := fun ρ σ p z => .inl z
  rcases ef with rfl | ⟨rfl, rfl⟩
  · refine fun v σ' H' n r f => q v H' ⟨fun p o hp => n.ev p o hp (nown p), fun ht => dp_sub (hid_mono (mono ρ' σ')) _ _ (RtOk.dp ht r), fun ht kvs e => ?_, fun z es ee => ?_⟩
    · subst e
      obtain ⟨_, i, r1, r2, _⟩ := r
      obtain ⟨b, t, c1, c2, c3, c4⟩ := n.er.tab i kvs r1
      rw [r2] at c1
      cases c1
      refine ⟨b, t, rfl, c2, c3, c4.sub (hid_mono fun z w => ?_)⟩
      rcases w with w | w
      · exact .inl w
      · rw [w]; exact .inr ⟨i, _, r1, True.intro, r2⟩
    obtain ⟨p, us, ev, hp, hl2, _, r2⟩ := f z es ee
    exact ⟨p, us, ev, hp, hl2, dpAll_sub (hid_mono fun b hb => hb.elim (fun z => .inl (.inl z)) fun z => .inl (.inr z)) _ _ r2⟩
  · exact fun σ' H' n => q .non H' ⟨fun p o hp => n.ev p o hp (nown p), fun _ => .non, fun _ kvs e => (by cases e), fun z es ee => (by cases ee)⟩
theorem body_own {d : Df} {G : GT} {B : List Str} {X : Cx} {W : Addr → Prop} {H : Hp} {a : Addr} {xs os' : List V} {os ds : List D} {dd : D} {out : List D} {Q : VK} (F : Full X (ctOf G B d)) (hk : X.env.scope.kind = .function) (hx : PassesOwn (model X.prog X.w) X.A X.env X.xe) (S : FnScope d.N d.ps d.sc) (ht : d.tab = false) (ho : d.own = true)
    (wa : W a) (w : Wok W H) (ha : H a = some (.lst os')) (h0 : DpAll X.K (hid W H) os' os) (h : DpAll X.K (hid W H) xs ds) (hl : ds.length + 1 = d.ps.length) (hs : semOf G B d os ds = some (dd, out))
    (q : ∀ v H' os'', (∀ p o, H p = some o → p ≠ a → H' p = some o) → H' a = some (.lst os'') → DpAll X.K (hid W H') os'' out → Dp X.K (hid W H') v dd → Q v H') : WSs X d.body { nx := fun _ H' => Q .non H', rt := Q } (L2.start d.N (.ref a :: xs)) H := by
  rw [semOf_eq, ho] at hs
  obtain ⟨fl, rr, e, ef⟩ := run_own hs
  have hvl : xs.length = ds.length := DpAll.length h
  have hpl : d.ps.length ≤ d.N.length := by have := congrArg List.length S.pre; rw [List.length_take] at this; omega
  let Pm0 : Pm := ⟨fun p => p = a ∨ H p = none, H, W, [(0, a)], tbX X⟩
  have st0 : (L2.start d.N (.ref a :: xs))[0]? = some (some (V.ref a)) := start_get rfl
  have slot : ∀ {i : Nat} {x : SV}, (SV.own os :: ds.map SV.val ++ List.replicate (d.N.length - d.ps.length) .un)[i]? = some x → x ≠ .un → (i = 0 ∧ x = .own os) ∨ ∃ d v, x = .val d ∧ (V.ref a :: xs)[i]? = some v ∧ Dp X.K (hid W H) v d := fun {i x} h1 hne => by
    cases i with
    | zero => exact .inl ⟨rfl, by simpa using h1.symm⟩
    | succ i =>
      have h1 : (ds.map SV.val ++ List.replicate (d.N.length - d.ps.length) .un)[i]? = some x := by simpa using h1
      obtain ⟨d2, v, z, hv, r⟩ := vals_get_some h h1 hne
      exact .inr ⟨d2, v, z, by simpa using hv, r⟩
  have own0 : ∀ p, Own (SV.own os :: ds.map SV.val ++ List.replicate (d.N.length - d.ps.length) .un) (L2.start d.N (.ref a :: xs)) p → p = a := fun p ⟨i, x, h1, hx, h2⟩ => by
    rcases slot h1 (by intro z; rw [z] at hx; exact hx) with ⟨rfl, _⟩ | ⟨d1, v, z, _⟩
    · rw [st0] at h2; cases h2; rfl
    · rw [z] at hx; exact hx.elim
  have wr : ∀ p, Wr Pm0 (SV.own os :: ds.map SV.val ++ List.replicate (d.N.length - d.ps.length) .un) (L2.start d.N (.ref a :: xs)) p → W p := fun p z => z.elim id fun z => own0 p z ▸ wa
  have er : ER X.K Pm0 (SV.own os :: ds.map SV.val ++ List.replicate (d.N.length - d.ps.length) .un) (L2.start d.N (.ref a :: xs)) H := by
    refine ⟨?_, fun i d1 h1 => ?_, fun i x h1 hx => ?_, fun i j x y b h1 hx h2 hy _ _ => ?_, w, fun p o hp n => hp, fun p hp => hp, fun q hq => ?_, fun i x b h1 hx h2 h3 => ?_⟩
    · unfold L2.start
      simp only [List.length_append, List.length_map, List.length_replicate, List.length_cons]
      omega
    · rcases slot h1 (by intro z; cases z) with ⟨_, z⟩ | ⟨d2, v, z, hv, r⟩
      · cases z
      · cases z
        exact ⟨v, start_get hv, dp_sub (hid_mono wr) _ _ r⟩
    · rcases slot h1 (by intro z; rw [z] at hx; exact hx) with ⟨rfl, z⟩ | ⟨d2, v, z, _⟩
      · subst z
        exact ⟨a, st0, .inl rfl, os', ha, dpAll_sub (hid_mono wr) _ _ h0⟩
      · rw [z] at hx; exact hx.elim
    · rcases slot h1 (by intro z; rw [z] at hx; exact hx) with ⟨rfl, _⟩ | ⟨d2, v, z, _⟩
      · rcases slot h2 (by intro z; rw [z] at hy; exact hy) with ⟨rfl, _⟩ | ⟨d2, v, z, _⟩
        · rfl
        · rw [z] at hy; exact hy.elim
      · rw [z] at hx; exact hx.elim
    · have : q = (0, a) := List.mem_singleton.mp hq
      subst this
      exact st0
    · rcases slot h1 (by intro z; rw [z] at hx; exact hx) with ⟨rfl, _⟩ | ⟨d2, v, z, _⟩
      · exact absurd rfl (h3 (0, a) (List.mem_singleton.mpr rfl))
      · rw [z] at hx; exact hx.elim
  have hpn : (ctOf G B d).pn = [0] := by
    unfold ctOf
    rw [ho]
  have g : Good (tbX X) Pm0 (ctOf G B d).pn := ⟨⟨fun p hp => .inr hp, fun q hq => by
      have : q = (0, a) := List.mem_singleton.mp hq
      subst this
      intro z
      have z : H a = none := z
      rw [ha] at z; cases z⟩, fun q hq => by
      have : q = (0, a) := List.mem_singleton.mp hq
      subst this
      rw [hpn]
      rfl, rfl⟩
  refine (snd_S 60 X (ctOf G B d) F hk hx).2 d.body Pm0 _ _ H fl (.own out :: rr) _ g er e ?_
  have fin : ∀ (σ' : SSt) (H' : Hp), Nx X.K Pm0 _ _ H (SV.own out :: rr) σ' H' → ∃ os'', (∀ p o, H p = some o → p ≠ a → H' p = some o) ∧ H' a = some (.lst os'') ∧ DpAll X.K (hid W H') os'' out ∧ Sub (hid (Wr Pm0 (SV.own out :: rr) σ') H') (hid W H') := fun σ' H' n => by
    have s : Sub (hid (Wr Pm0 (SV.own out :: rr) σ') H') (hid W H') := hid_mono fun b hb => .inl hb
    obtain ⟨a1, us, k1, _, k3, k4⟩ := n.er.own 0 out rfl
    have k5 := n.er.pin (0, a) (List.mem_singleton.mpr rfl)
    have k5 : σ'[0]? = some (some (V.ref a)) := k5
    rw [k5] at k1
    cases k1
    exact ⟨us, fun p o hp hne => n.ev p o hp fun z => hne (own0 p z), k3, dpAll_sub s _ _ k4, s⟩
  rcases ef with rfl | ⟨rfl, rfl⟩
  · intro v σ' H' n r f
    obtain ⟨os'', c1, c2, c3, c4⟩ := fin σ' H' n
    exact q v H' os'' c1 c2 c3 (dp_sub c4 _ _ (RtOk.dp ht r))
  · intro σ' H' n
    obtain ⟨os'', c1, c2, c3, c4⟩ := fin σ' H' n
    exact q .non H' os'' c1 c2 c3 .non
theorem find_mem {x : Str} {d : Df} : ∀ {ds : List Df}, findDf ds x = some d → d ∈ ds ∧ d.name = x
  | [], h => by cases h
  | e :: r, h => by
    unfold findDf at h
    split at h
    · rename_i he
      cases h
      exact ⟨List.mem_cons_self, of_decide_eq_true he⟩
    · obtain ⟨h1, h2⟩ := find_mem h
      exact ⟨List.mem_cons_of_mem _ h1, h2⟩
theorem kwOk_of {d : Df} {args : Arguments} {f : Addr} {fd : FuncData} {ks : List Str} (F : FunD K d.name d.name args d.body d.sc [] [] f fd)
    (h : ∀ js, permOf d.ps (ks.map some) = some js → ∀ (kV doc pm : Value) (an : Option Addr) (cdv ct : Value) (ws : List Value), ws.length = ks.length → bindArgs (PySem.W.fnOf d.name d.name args d.body d.sc .none kV doc pm an cdv ct) ⟨[], ks.zip ws⟩ = pure (d.ps.zip (pickL js ws))) : KwOk K fd d.ps ks := by
  intro js hj s ws _ hl
  obtain ⟨oc, od, dV, kV, doc, pm, an, cdv, ct, osl, rfl, lk, hcd, hD, hK⟩ := F.ex
  rcases hD with ⟨_, rfl⟩ | ⟨e, _⟩
  · exact .of_eq (h js hj kV doc pm an cdv ct ws hl)
  · exact absurd rfl e
theorem fun_at {x qual : Str} {params : Arguments} {body : List Stmt} {scope : Scope} {dvs : List V} {kws : List (Str × V)} {f : Addr} {fd : FuncData} (F : FunD K x qual params body scope dvs kws f fd) : ∃ (oc : Value) (od : Option Addr) (osl : Array (Option Value)), K.lookup f = some ⟨oc, od, .func fd, osl⟩ := by
  obtain ⟨oc, od, _, _, _, _, _, _, _, osl, _, lk, _⟩ := F.ex
  exact ⟨oc, od, osl, lk⟩
theorem lev_zero {d : Df} (D : DefOk K mg d) : FnP P w K mg base 0 d.name ⟨d.ps, d.own, d.star, d.fr, d.kw, d.tab, fun _ _ => none, fun _ => false⟩ := by
    obtain ⟨f, fd, args, g1, F, g2, g3⟩ := D.ex
    refine ⟨fun _ os xs d out z => (by cases z), ⟨f, g1, F.kp, fun _ => ?_, fun hs => ⟨fd, ?_, FunD.bindsN F (g2 hs).1, fun ks hks => kwOk_of F ((g2 hs).2 ks hks), fun_at F⟩⟩, fun C xo ho => ⟨f, g1, F.kp, fun _ => ?_, fun hs => ⟨fd, ?_, FunD.bindsN F (g2 hs).1⟩⟩⟩
    · intro A outer s H us vs Q E hr e0 r hsp
      obtain ⟨W, es, dd, _, _, _, z, _⟩ := hsp
      cases z
    · have no : ∀ vs H Q E, spF (TabO P w) K (⟨d.ps, d.own, d.star, d.fr, d.kw, d.tab, fun _ _ => none, fun _ => false⟩ : FnI) vs H Q E → False := fun vs H Q E z => by
        cases ho : d.own with
        | true =>
          unfold spF at z
          rw [show (FnI.mk d.ps d.own d.star d.fr d.kw d.tab (fun _ _ => none) fun _ => false).own = true from ho] at z
          obtain ⟨_, _, _, _, _, _, _, _, _, _, _, _, _, _, _, z, _⟩ := z
          cases z
        | false =>
          unfold spF at z
          rw [show (FnI.mk d.ps d.own d.star d.fr d.kw d.tab (fun _ _ => none) fun _ => false).own = false from ho] at z
          obtain ⟨_, _, _, _, _, _, z, _⟩ := z
          cases z
      exact ⟨fun vs H Q E z => (no vs H Q E z).elim, fun A outer s H args us vs Q E _ _ _ _ z => (no vs H Q E z).elim⟩
    · intro A outer s H us vs Q E hr e0 r hsp
      obtain ⟨W, es, _, _, _, z, _⟩ := hsp
      cases z
    · have no : ∀ vs H Q E, spR K (⟨d.ps, d.own, d.star, d.fr, d.kw, d.tab, fun _ _ => none, fun _ => false⟩ : FnI) C vs H Q E → False := fun vs H Q E z => by
        obtain ⟨W, es, _, _, _, z, _⟩ := z
        cases z
      exact ⟨fun vs H Q E z => (no vs H Q E z).elim, fun A outer s H args us vs Q E _ _ _ _ z => (no vs H Q E z).elim⟩
theorem lev_succ {d : Df} {G : GT} {B : List Str} {k : Nat} (D : DefOk K mg d) (hB : ∀ x, B.contains x = true → mg x = none) (ih : ∀ x I, G x = some I → FnP P w K mg base k x I) : FnP P w K mg base (k + 1) d.name (infoOf G B d) := by
    obtain ⟨f, fd, args, g1, F, g2, g3⟩ := D.ex
    have S := D.sc
    refine ⟨fun _ os xs dd out z => run_len z, ⟨f, g1, F.kp, fun hs => ?_, fun hs => ⟨fd, ?_, FunD.bindsN F (g2 hs).1, fun ks hks => kwOk_of F ((g2 hs).2 ks hks), fun_at F⟩⟩, fun C xo ho => ⟨f, g1, F.kp, fun hs => ?_, fun hs => ⟨fd, ?_, FunD.bindsN F (g2 hs).1⟩⟩⟩
    · obtain ⟨ho, pv, hps, hbd⟩ := g3 hs
      obtain ⟨oc, od, dV, kV, doc, pm, an, cdv, ct, osl, rfl, lk, hcd, hD, hK⟩ := F.ex
      rcases hD with ⟨_, rfl⟩ | ⟨e, _⟩
      · have R := StX.fn_star (P := P) (w := w) (mg := mg) (base := base) (k := k) (ps := []) (pv := pv) (CX := CX0) (sp := fun vs H Q _ => ∃ (W : Addr → Prop) (es : List Dl.D) (dd : Dl.D), Wok W H ∧ DpAll K (hid W H) vs es ∧ es.length = d.ps.length ∧ semOf G B d [] es = some (dd, []) ∧ ∀ v H', RS (TabO P w) d.fr d.tab K W H H' v dd → Q v H') lk hcd (by rw [List.nil_append, ← hps]; exact S) (fun _ _ _ _ _ _ _ _ _ _ _ z => z)
          (fun us rest hl => by
            rw [List.length_eq_zero_iff.mp hl]
            exact hbd kV doc pm an cdv ct rest)
          (fun A outer s H vs Q E hr ⟨W, es, dd, w1, w2, w3, w4, w5⟩ => ⟨WSs (defCx P w K mg base d f cdv A outer s H E) d.body, PSs.nox pss_wss, body_plain (def_full S hr hB ih) S.kind PassesOwn.never S ho w1 w2 w3 w4 w5⟩)
        refine FnR.imp R fun vs H Q E ⟨W, es, dd, w1, w2, w3, w4, w5⟩ => ⟨[], vs, rfl, rfl, by rw [DpAll.length w2, ← line_eq]; exact w3, fun p hp => ?_⟩
        have sb := Sub.upd (o := .tup vs) hp
        refine ⟨W, [.tuple es], dd, fun q hq z => w1 q hq ?_, .cons (ResF.tup w1 hp w2).dp .nil, by rw [hps]; rfl, w4, fun v H' r => w5 v H' ⟨sb.trans r.sub, r.dp, fun ht kvs e => ?_, fun z es2 ee => ?_⟩⟩
        · by_cases hqp : q = p
          · subst hqp; rw [upd_same] at z; cases z
          · rw [upd_ne hqp] at z; exact z
        · obtain ⟨p2, t, ev, h1, h2, h3⟩ := r.tb ht kvs e
          refine ⟨p2, t, ev, ?_, h2, h3⟩
          by_cases hqp : p2 = p
          · subst hqp; exact hp
          · rw [upd_ne hqp] at h1; exact h1
        · obtain ⟨p2, us, ev, h1, h2, h3⟩ := r.fr z es2 ee
          refine ⟨p2, us, ev, ?_, h2, h3⟩
          by_cases hqp : p2 = p
          · subst hqp; exact hp
          · rw [upd_ne hqp] at h1; exact h1
      · exact absurd rfl e
    · refine F.ok S (fun vs H Q E z => ?_) fun cdv A outer s H vs Q E hr z => ⟨WSs (defCx P w K mg base d f cdv A outer s H E) d.body, PSs.nox pss_wss, ?_⟩
      · cases ho : d.own with
        | true =>
          unfold spF at z
          rw [show (infoOf G B d).own = true from ho] at z
          obtain ⟨W, a, xs, os', os, es, dd, out, rfl, _, _, _, _, h1, h2, _⟩ := z
          rw [List.length_cons, DpAll.length h1]
          exact h2
        | false =>
          unfold spF at z
          rw [show (infoOf G B d).own = false from ho] at z
          obtain ⟨W, es, dd, _, h1, h2, _⟩ := z
          rw [DpAll.length h1]
          exact h2
      · cases ho : d.own with
        | true =>
          unfold spF at z
          rw [show (infoOf G B d).own = true from ho] at z
          obtain ⟨W, a, xs, os', os, es, dd, out, rfl, a1, a2, a3, a4, a5, a6, a7, a8⟩ := z
          exact body_own (def_full S hr hB ih) S.kind PassesOwn.never S (D.nt ho) ho a1 a2 a3 a4 a5 a6 a7 a8
        | false =>
          unfold spF at z
          rw [show (infoOf G B d).own = false from ho] at z
          obtain ⟨W, es, dd, w1, w2, w3, w4, w5⟩ := z
          exact body_plain (def_full S hr hB ih) S.kind PassesOwn.never S ho w1 w2 w3 w4 w5
    · obtain ⟨ho, pv, hps, hbd⟩ := g3 hs
      obtain ⟨oc, od, dV, kV, doc, pm, an, cdv, ct, osl, rfl, lk, hcd, hD, hK⟩ := F.ex
      rcases hD with ⟨_, rfl⟩ | ⟨e, _⟩
      · have R := StX.fn_star (P := P) (w := w) (mg := mg) (base := base) (k := k) (ps := []) (pv := pv) (CX := L2.CX P w) (sp := fun vs H _ E => ∃ (W : Addr → Prop) (es : List Dl.D), Wok W H ∧ DpAll K (hid W H) vs es ∧ es.length = d.ps.length ∧ rzOf G B d es = true ∧ ∀ H', Sub H H' → E (.ref C) none H') lk hcd (by rw [List.nil_append, ← hps]; exact S) StX.cxUp
          (fun us rest hl => by
            rw [List.length_eq_zero_iff.mp hl]
            exact hbd kV doc pm an cdv ct rest)
          (fun A outer s H vs Q E hr ⟨W, es, w1, w2, w3, w4, w5⟩ => ⟨WSs (defCxX P w K mg base d f cdv A outer s H E) d.body, pss_wss, body_raise (def_fullX S hr hB ih) S.kind (passes_of rfl) (takes_of rfl rfl rfl rfl) xo S w1 w2 w3 w4 fun _ H' sb => w5 H' sb⟩)
        refine FnR.imp R fun vs H Q E ⟨W, es, w1, w2, w3, w4, w5⟩ => ⟨[], vs, rfl, rfl, by rw [DpAll.length w2, ← line_eq]; exact w3, fun p hp => ?_⟩
        have sb := Sub.upd (o := .tup vs) hp
        refine ⟨W, [.tuple es], fun q hq z => w1 q hq ?_, .cons (ResF.tup w1 hp w2).dp .nil, by rw [hps]; rfl, w4, fun H' sb' => w5 H' (sb.trans sb')⟩
        by_cases hqp : q = p
        · subst hqp; rw [upd_same] at z; cases z
        · rw [upd_ne hqp] at z; exact z
      · exact absurd rfl e
    · refine F.ok S (fun vs H Q E z => ?_) fun cdv A outer s H vs Q E hr z => ⟨WSs (defCxX P w K mg base d f cdv A outer s H E) d.body, pss_wss, ?_⟩
      · obtain ⟨W, es, _, h1, h2, _⟩ := z
        rw [DpAll.length h1]
        exact h2
      · obtain ⟨W, es, w1, w2, w3, w4, w5⟩ := z
        exact body_raise (def_fullX S hr hB ih) S.kind (passes_of rfl) (takes_of rfl rfl rfl rfl) xo S w1 w2 w3 w4 fun _ H' sb => w5 H' sb
/-- every def at every level; ov: those that are shown by hand -/
theorem levels {ov : Ov} {ds : List Df} {B : List Str} (D : ∀ d ∈ ds, DefOk K mg d) (hB : ∀ x, B.contains x = true → mg x = none)
    (hov : ∀ x F, ov x = some F → ∀ k, (∀ j, j ≤ k → ∀ y I, GsO ov ds B j y = some I → FnP P w K mg base j y I) → FnP P w K mg base (k + 1) x (F (GsO ov ds B k))) : ∀ k, ∀ j, j ≤ k → ∀ x I, GsO ov ds B j x = some I → FnP P w K mg base j x I := by
  have one : ∀ k, (∀ j, j < k → ∀ x I, GsO ov ds B j x = some I → FnP P w K mg base j x I) → ∀ x I, GsO ov ds B k x = some I → FnP P w K mg base k x I := fun k ih x I h => by
    cases k with
    | zero =>
      obtain ⟨d, hd, rfl⟩ := Option.map_eq_some_iff.mp (show (findDf ds x).map _ = some I from h)
      obtain ⟨hm, rfl⟩ := find_mem hd
      exact lev_zero (D d hm)
    | succ k =>
      have h : (match ov x with | some F => some (F (GsO ov ds B k)) | none => (findDf ds x).map (infoOf (GsO ov ds B k) B)) = some I := h
      split at h
      · rename_i F hF
        cases h
        exact hov x F hF k fun j hj => ih j (Nat.lt_succ_of_le hj)
      · obtain ⟨d, hd, rfl⟩ := Option.map_eq_some_iff.mp h
        obtain ⟨hm, rfl⟩ := find_mem hd
        exact lev_succ (D d hm) hB (ih k (Nat.lt_succ_self k))
  intro k
  induction k with
  | zero => exact fun j hj x I h => one j (fun i hi => absurd hi (by omega)) x I h
  | succ k ih =>
    intro j hj x I h
    by_cases e : j ≤ k
    · exact ih j e x I h
    · exact one j (fun i hi => ih i (by omega)) x I h
end
end Dl

set_option maxRecDepth 100000
set_option maxHeartbeats 4000000
/-! try: .. except C as n: m = n, where the error stays at hand behind the clause; functions out of a list; isinstance of such an error. -/
namespace Dl
open PySem PySem.Spec L2
open PyProof.Rows hiding St
section
variable {X : Cx} {pins : List (Addr × Obj)} {σ : SSt} {H : Hp} {s : Shared}
/-- behind the clause the error's object is still known -/
theorem Inv.holdOn {a : Addr} {oe : Obj} {pn' : List (Addr × Obj)} (I : Inv (X.suite a ((a, oe) :: (X.pn ++ pins))) pn' σ H s) (ok : X.Ok) : Inv X ((a, oe) :: pins) σ H s :=
  ⟨ok, I.os, I.bare, I.base, I.loc, I.cell, I.free, I.freeC, fun p hp => I.pin p (List.mem_append_left _ (by
    rcases List.mem_append.mp hp with h | h
    · exact List.mem_cons_of_mem _ (List.mem_append_left _ h)
    · rcases List.mem_cons.mp h with e | h
      · rw [e]; exact List.mem_cons_self ..
      · exact List.mem_cons_of_mem _ (List.mem_append_right _ h))), I.hok, I.len⟩
theorem Inv.fewer {q : Addr × Obj} (I : Inv X (q :: pins) σ H s) : Inv X pins σ H s :=
  ⟨I.ok, I.os, I.bare, I.base, I.loc, I.cell, I.free, I.freeC, fun p hp => I.pin p (by
    rcases List.mem_append.mp hp with h | h
    · exact List.mem_append_left _ h
    · exact List.mem_append_right _ (List.mem_cons_of_mem _ h)), I.hok, I.len⟩
/-- what is wished of an error of the body -/
def wKeep (K : PySem.W.Frag) (c : Value) (i : Nat) (ts : Addr → Value → Option Addr → TS) (R : Addr → Value → Option Addr → SSt → Hp → Prop) : WX := fun cls d σ H =>
  PySem.W.exmOne K cls c = some true ∧ ∀ a, H a = none → ts a cls d { nx := fun σ' H' => R a cls d (σ'.set i none) H', rt := fun _ _ => False } (σ.set i (some (.ref a))) H
theorem try_keep {x n : Str} {c : Value} {i : Nat} {body suite : List Stmt} {b0 : Stmt} {np pos pos' : Pos} {tb : WX → TS} {ts : Addr → Value → Option Addr → TS} {R : Addr → Value → Option Addr → SSt → Hp → Prop} {D : Ends} {Q : Flow → Shared → Prop}
    (hs : X.stack = X.env :: X.outer) (hf : X.env.frame = some X.env.locals) (hN : X.N.Nodup) (hi : X.N[i]? = some n) (hln : X.env.kindOf n = some .local) (hc : Names X x c)
    (hb : ∀ (W : WX) (pn : List (Addr × Obj)) (xe : Value → Shared → Prop), Takes (X.tr pn xe) W → PassesOwn (model X.prog X.w) X.A X.env xe → PSs (X.tr pn xe) body (tb W))
    (hsu : ∀ (a : Addr) (oe : Obj) (cls : Value) (d : Option Addr) (pn : List (Addr × Obj)), Zc cls d oe → (∃ vs, oe.data = .fields vs) → PSs (X.suite a ((a, oe) :: pn)) (b0 :: suite) (ts a cls d))
    (I : Inv X pins σ H s) (h : tb (wKeep X.K c i ts R) D σ H) (q1 : ∀ f s', SP X pins D f s' → Q f s')
    (q2 : ∀ (a : Addr) (oe : Obj) (cls : Value) (d : Option Addr) (σ' : SSt) (H' : Hp) (s' : Shared), Zc cls d oe → (∃ vs, oe.data = .fields vs) → Inv X ((a, oe) :: pins) σ' H' s' → R a cls d σ' H' → Q .next s') :
    wpAny (model X.prog X.w) X.A (exec (.Try body [.ExceptHandler (some (.Name x np)) (some n) (b0 :: suite) pos'] [] [] pos) X.env) Q X.xe s := by
  have ok := I.ok
  have hfr : X.A.frames = some (X.env :: X.outer) := by rw [ok.frames, hs]
  refine wpAny_Try_except ?_
  refine wpAny_mono ((hb (wKeep X.K c i ts R) (X.pn ++ pins) (fun e s1 => wpAny (model X.prog X.w) X.A (noteFrame e X.env) (fun _ s2 => wpAny (model X.prog X.w) X.A (setFlight e none) (fun _ s3 =>
    wpAny (model X.prog X.w) X.A (handleBy e X.env [.ExceptHandler (some (.Name x np)) (some n) (b0 :: suite) pos']) Q X.xe s3) X.xe s2) X.xe s1) (fun u s' air => ?_) PassesOwn.looking).run [] s σ H D (I.toTry _) h) (fun f s1 hsp => ?_) (fun e s1 he => he)
  · obtain ⟨a, B, sI, pins', σ', H', cls, d, rfl, J', nb, up, sky, na, os, ag, hm, hyes⟩ := air
    have J : Inv X pins σ' H' sI := J'.ofTry ok
    have sky' : Sky B (X.env :: X.outer) a (Zc cls d) X.env.locals s'.heap := by rw [← hs]; exact sky
    show wpAny (model X.prog X.w) X.A (noteFrame (.ref a) X.env) _ _ _
    refine Sky.land Zc.steady hfr hf sky' fun h3 fl3 up3 => ?_
    have J3 : Inv X pins σ' H' { s' with heap := h3 } := J.landed nb fl3.1 (up.trans up3) os ag
    obtain ⟨oe3, vs3, he3, hz3, hd3⟩ := fl3.there
    have nfr : a ∉ frs (X.env :: X.outer) := fun hm => by
      obtain ⟨_, o', e', hnf⟩ := fl3.2.2.1.mem hm
      rw [he3] at e'; cases e'
      exact hnf _ hd3
    have nL : a ≠ X.env.locals := fun z => nfr (List.mem_filterMap.mpr ⟨X.env, List.mem_cons_self, by rw [hf, z]⟩)
    have nF : a ∉ X.fs := fun hm => by
      obtain ⟨e, he, q⟩ := List.mem_filterMap.mp hm
      exact nfr (List.mem_filterMap.mpr ⟨e, List.mem_cons_of_mem _ he, q⟩)
    have S3 := J3.suite he3 hd3 na nL nF
    refine wpAny_handleBy_cons (codeAny_handlers_test ?_) (by intro q; cases q)
    have LT : PySem.W.Looks (model X.prog X.w) h3 (typeOf (.ref a)) cls := fun A Q E s k q => wpAny_typeOf_ref (k _ _ he3) (by rw [hz3.1]; exact q)
    have LM := PySem.W.exm_one (M := model X.prog X.w) J3.kIn LT hm
    have test : ∀ {Q : Value → Shared → Prop} {E : Value → Shared → Prop}, Q c { s' with heap := h3 } → wpAny (model X.prog X.w) (X.A.mark (some (.ref a))) (eval (.Name x np) X.env) Q E { s' with heap := h3 } := fun {Q E} q => by
      obtain ⟨hg, hdbg, hm | ⟨hm, hv, hnn⟩⟩ := hc
      · exact ld_glob (X := X.suite a ((a, oe3) :: (X.pn ++ pins))) S3 hg hm q hdbg
      · exact ld_blt (X := X.suite a ((a, oe3) :: (X.pn ++ pins))) S3 hg hm hv q hnn hdbg
    refine test (LM.here ?_)
    refine codeAny_handlers_suite_as ?_
    refine HandSPX.lands_againZ fl3 fun h4 fl4 up4 => ?_
    have J4 : Inv X pins σ' H' { s' with heap := h4 } := J.landed nb fl4.1 ((up.trans up3).trans up4) os ag
    obtain ⟨oe4, vs4, he4, hz4, hd4⟩ := fl4.there
    have S4 := J4.suite he4 hd4 na nL nF
    refine store_ok (X := X.suite a ((a, oe4) :: (X.pn ++ pins))) (v := .ref a) S4 hN hi (.inl hln) rfl (fun s5 S5 => ?_) (.inr hln)
    refine wpAny_mono ((hsu a oe4 cls d (X.pn ++ pins) hz4 ⟨_, hd4⟩).run [] s5 _ H' _ S5 (hyes a na)) (fun f s6 hsp => ?_) (fun _ _ z => False.elim z)
    cases f with
    | next =>
      obtain ⟨σ6, H6, S6, q6⟩ := hsp
      exact gone_ok (Inv.holdOn S6 ok) hN hi hln fun s7 J7 => q2 a oe4 cls d _ H6 s7 hz4 ⟨_, hd4⟩ J7 q6
    | brk =>
      obtain ⟨σ6, H6, S6, q6⟩ := hsp
      exact q6.elim
    | cont =>
      obtain ⟨σ6, H6, S6, q6⟩ := hsp
      exact q6.elim
    | ret u =>
      obtain ⟨v6, σ6, H6, S6, r6, q6⟩ := hsp
      exact q6.elim
  · cases f with
    | next =>
      obtain ⟨σ', H', J', q⟩ := hsp
      exact wpAny_execs_nil (q1 _ _ ⟨σ', H', J'.ofTry ok, q⟩)
    | brk =>
      obtain ⟨σ', H', J', q⟩ := hsp
      exact q1 _ _ ⟨σ', H', J'.ofTry ok, q⟩
    | cont =>
      obtain ⟨σ', H', J', q⟩ := hsp
      exact q1 _ _ ⟨σ', H', J'.ofTry ok, q⟩
    | ret u =>
      obtain ⟨v, σ', H', J', r, q⟩ := hsp
      exact q1 _ _ ⟨v, σ', H', J'.ofTry ok, r, q⟩
end
/-- isinstance(e, c), e an error whose object is known -/
theorem call_isP {X : Cx} {a D : Addr} {oe : Obj} {pn : List (Addr × Obj)} {xe : Value → Shared → Prop} (C : ExcC X.K D) (hz : Zc (.ref D) none oe) (hf : ∃ vs, oe.data = .fields vs) : CallR (X.tr ((a, oe) :: pn) xe) (.builtin "isinstance") (rIsE X.K D a) := by
  intro pins s σ H xs us Q I r h
  obtain ⟨c, cv, b, rfl, hcv, e, q⟩ := h
  cases r with
  | cons rx rr =>
    cases rr with
    | cons rt rr =>
      cases rr
      cases rx
      have ec := hcv _ rt
      subst ec
      obtain ⟨there, _⟩ := I.pin (a, oe) (List.mem_append.mpr (.inl List.mem_cons_self))
      obtain ⟨vs, hv⟩ := hf
      have J : PySem.W.InstAt s.heap a oe D none := by
        cases oe with
        | mk oc od oda osl =>
          obtain ⟨h1, h2⟩ := hz
          dsimp only at h1 h2 hv
          subst h1 h2 hv
          exact ⟨there, rfl, rfl, trivial⟩
      exact PySem.W.kia_one (PySem.W.handS_kitx_exc C.hg C.hk C.hs C.hd C.ha C.hn C.ht C.hm) I.kIn J e (fun z => nomatch z) fun tk => ⟨.bl b, H, I.kept (t' := tk) fun _ _ z => z, rfl, q⟩
section
variable {X : Cx}
/-- fs[i](e, ..): what is called is read out of a list -/
theorem pe_callV {ls ix e : Expr} {es : List Expr} {tf : TE} {p pos : Pos} (hf : PE X (.Subscript ls ix p) tf) (hn : noStar e = true) (hm : es.all noStar = true) :
    PE X (.Call (.Subscript ls ix p) (e :: es) [] pos) (fun σ H Q => tf σ H fun v H1 => ∃ f, v = .ref f ∧ PySem.W.keepIn X.K (.ref f) = true ∧ WA X (e :: es) σ H1 fun vs H2 =>
      ∀ (pins : List (Addr × Obj)) (s : Shared) (us : List Value), Inv X pins σ H2 s → Vals vs us → wpAny (model X.prog X.w) X.A (call (.ref f) us) (EP X pins σ Q) X.xe s) := by
  refine ⟨fun pins s σ H Q I h => ?_⟩
  show wpAny _ _ (do callWith pos (← eval (.Subscript ls ix p) X.env) [] (backTo pos (starEach (e :: es) X.env)) (backToKw pos (keywordEach [] X.env))) _ _ _
  refine wpAny_bind (thn (hf.run pins s σ H _ I h) fun u s1 ⟨v, H1, I1, r1, f, ev, hk, q⟩ => ?_)
  subst ev
  obtain rfl : u = Value.ref f := r1
  exact PySem.W.callWith_K (h₀ := X.base) I1.ok.mod.kin hk (thn (q pos pins s1 I1) fun us s2 ⟨vs, H2, I2, r2, q2⟩ => ⟨I2.kIn, q2 pins s2 us I2 r2⟩) (star_cons hn) (nostar_any hm)
end
end Dl

set_option maxRecDepth 100000
set_option maxHeartbeats 0
namespace K86
open PySem PySem.Spec L2 Dl
open PyProof.Rows hiding St
abbrev prog : Program := PySem.Challenge.pw_anyareas_k86_passings_between_forms
def top (i : Nat) : Stmt := prog.main.body.getD i (.Pass ⟨0, 0, 0, 0⟩)
def d_tupled : Df := ⟨"tupled", ["thing"], false, false, false, [], false, [], ["thing", "part"], defScope (top 3), defBody (top 3)⟩
def d_next_forms : Df := ⟨"next_forms", ["form"], false, false, true, [["form"]], false, [], ["form", "own", "found", "place", "way", "one", "other", "word", "spot", "later"], defScope (top 5), defBody (top 5)⟩
def d_behind_by : Df := ⟨"behind_by", ["word"], false, false, false, [], false, [], ["word", "spot"], defScope (top 6), defBody (top 6)⟩
def d_word_by : Df := ⟨"word_by", ["counts", "many"], false, false, false, [], false, [], ["counts", "many", "found", "done", "count"], defScope (top 7), defBody (top 7)⟩
def d_check_kinds : Df := ⟨"check_kinds", ["forms"], false, true, false, [], false, [], ["forms", "kinds", "seam", "form", "kind"], defScope (top 8), defBody (top 8)⟩
def d_passings : Df := ⟨"passings", ["one", "other"], false, false, false, [["other", "one"]], false, [], ["one", "other", "found", "mine", "its", "near", "far"], defScope (top 9), defBody (top 9)⟩
def d_a_course : Df := ⟨"a_course", ["one", "other"], false, false, false, [], false, [], ["one", "other", "found", "last", "left", "form"], defScope (top 10), defBody (top 10)⟩
def d_is_course : Df := ⟨"is_course", ["one", "other", "thing"], false, false, false, [], false, [], ["one", "other", "thing", "near", "far"], defScope (top 11), defBody (top 11)⟩
def d_between : Df := ⟨"between", ["one", "other", "third"], false, false, false, [], false, [], ["one", "other", "third"], defScope (top 12), defBody (top 12)⟩
def d_middle : Df := ⟨"middle", ["one", "other", "third"], false, false, false, [], false, [], ["one", "other", "third", "found", "seams", "rows", "seam", "counts", "some"], defScope (top 13), defBody (top 13)⟩
def d_law_box : Df := ⟨"_law_box", ["_law_script", "_law_k"], false, false, true, [], false, [], ["_law_script", "_law_k", "_law_great_so"], defScope (top 15), defBody (top 15)⟩
def d_law_take : Df := ⟨"_law_take", ["_law_box_here", "_law_top_so"], true, false, false, [], false, [], ["_law_box_here", "_law_top_so", "_law_digit_so", "_law_once", "_law_far", "_law_twice"], defScope (top 16), defBody (top 16)⟩
def d_law_cells : Df := ⟨"_law_cells", ["_law_script", "_law_most"], false, false, false, [], false, [], ["_law_script", "_law_most", "_law_cells_here", "_law_k", "_law_great_so", "_law_at_so"], defScope (top 17), defBody (top 17)⟩
def d_law_of : Df := ⟨"_law_of", ["_law_box_here", "_law_some"], true, false, false, [], false, [], ["_law_box_here", "_law_some"], defScope (top 18), defBody (top 18)⟩
def d_law_pick : Df := ⟨"_law_pick", ["_law_box_here", "_law_pool", "_law_size_so"], true, false, false, [], false, [], ["_law_box_here", "_law_pool", "_law_size_so", "_law_rest", "_law_some", "_law_turn"], defScope (top 19), defBody (top 19)⟩
def d_law_lists : Df := ⟨"_law_lists", ["_law_matter"], false, false, false, [], false, [], ["_law_matter", "_law_bit"], defScope (top 20), defBody (top 20)⟩
def d_law_same : Df := ⟨"_law_same", ["_law_got", "_law_due"], false, false, false, [], false, [], ["_law_got", "_law_due", "_law_mine", "_law_its", "_law_own"], defScope (top 21), defBody (top 21)⟩
def d_law_split : Df := ⟨"_law_split", ["_law_flat_here", "_law_tag", "_law_way_so", "_law_spot", "_law_news"], false, false, false, [], false, [], ["_law_flat_here", "_law_tag", "_law_way_so", "_law_spot", "_law_news", "_law_found", "_law_own"], defScope (top 22), defBody (top 22)⟩
def d_law_no_cross : Df := ⟨"_law_no_cross", ["_law_flat_here"], false, false, false, [], false, [], ["_law_flat_here", "_law_spots", "_law_own"], defScope (top 23), defBody (top 23)⟩
def d_law_flat : Df := ⟨"_law_flat", ["_law_box_here", "_law_most", "_law_wide_so"], true, false, false, [], false, [], ["_law_box_here", "_law_most", "_law_wide_so", "_law_tags", "_law_found", "_law_w", "_law_tag", "_law_lap", "_law_own", "_law_way_so", "_law_low_so", "_law_high_so", "_law_cell_so", "_law_near"], defScope (top 24), defBody (top 24)⟩
def d_law_seams : Df := ⟨"_law_seams", ["_law_flat_here"], false, false, false, [], false, [], ["_law_flat_here", "_law_found", "_law_frame_so", "_law_own", "_law_way_so", "_law_k", "_law_spot", "_law_bits", "_law_low_so"], defScope (top 25), defBody (top 25)⟩
def d_law_rows : Df := ⟨"_law_rows", ["_law_flat_here", "_law_seam_so"], false, false, false, [], false, [], ["_law_flat_here", "_law_seam_so", "_law_way_so", "_law_spot", "_law_low_so", "_law_high_so", "_law_k", "_law_here", "_law_own", "_law_ahead", "_law_behind"], defScope (top 26), defBody (top 26)⟩
def d_law_word : Df := ⟨"_law_word", ["_law_flat_here", "_law_seam_so"], false, false, false, [], false, [], ["_law_flat_here", "_law_seam_so", "_law_k", "_law_bits", "_law_sign_so", "_law_row", "_law_tag", "_law_own", "_law_bit"], defScope (top 27), defBody (top 27)⟩
def d_law_shape : Df := ⟨"_law_shape", ["_law_flat_here"], false, false, false, [], false, [], ["_law_flat_here", "_law_own"], defScope (top 28), defBody (top 28)⟩
def d_law_next : Df := ⟨"_law_next", ["_law_shape_so"], false, false, false, [], false, [], ["_law_shape_so", "_law_found", "_law_k", "_law_own", "_law_spot", "_law_near", "_law_bits"], defScope (top 29), defBody (top 29)⟩
def d_law_steps : Df := ⟨"_law_steps", ["_law_shape_so"], false, false, false, [], true, [1], ["_law_shape_so", "_law_table", "_law_rim_so", "_law_many_here", "_law_own", "_law_later"], defScope (top 30), defBody (top 30)⟩
def d_law_heard : Df := ⟨"_law_heard", ["_law_door", "_law_one_so", "_law_two_so", "_law_third_so"], false, false, false, [], false, [], ["_law_door", "_law_one_so", "_law_two_so", "_law_third_so", "_law_caught", "_law_told", "error"], defScope (top 31), defBody (top 31)⟩
def d_law_by_hand_right : Df := ⟨"_law_by_hand_right", [], false, false, false, [], false, [], ["_law_four", "_law_other_so", "_law_got", "_law_due", "_law_door", "_law_tags", "_law_five", "_law_own", "_law_rows_here", "_law_bits", "_law_told", "_law_turned_so"], defScope (top 32), defBody (top 32)⟩
def d_law_right : Df := ⟨"_law_right", ["_law_box_here"], true, false, false, [], false, [3], ["_law_box_here", "_law_turn", "_law_shape_so", "_law_table", "_law_every", "_law_lap", "_law_own", "_law_soft", "_law_got"], defScope (top 33), defBody (top 33)⟩
def d_law_many : Df := ⟨"_law_many", ["_law_shape_so"], false, false, false, [], false, [], ["_law_shape_so", "_law_many_here", "_law_own", "_law_ones", "_law_rest", "_law_k"], defScope (top 34), defBody (top 34)⟩
def d_law : Df := ⟨"law", ["_law_script"], false, false, false, [], false, [], ["_law_script", "_law_cells_here", "_law_k", "_law_box_here"], defScope (top 35), defBody (top 35)⟩
def defs : List Df := [d_tupled, d_next_forms, d_behind_by, d_word_by, d_check_kinds, d_passings, d_a_course, d_is_course, d_between, d_middle, d_law_box, d_law_take, d_law_cells, d_law_of, d_law_pick, d_law_lists, d_law_same, d_law_split, d_law_no_cross, d_law_flat, d_law_seams, d_law_rows, d_law_word, d_law_shape, d_law_next, d_law_steps, d_law_heard, d_law_by_hand_right, d_law_right, d_law_many, d_law]
def blt : List Str := ["len", "abs", "int", "tuple", "list", "sum", "any", "all", "min", "max", "sorted", "isinstance", "dict", "str", "bool", "range", "zip", "enumerate", "set", "ValueError"]
def h_tupled : He.DefD := ⟨("tupled", none), "tupled", "tupled", defArgs (top 3), defBody (top 3), defScope (top 3), [], []⟩
def h_next_forms : He.DefD := ⟨("next_forms", none), "next_forms", "next_forms", defArgs (top 5), defBody (top 5), defScope (top 5), [], []⟩
def h_behind_by : He.DefD := ⟨("behind_by", none), "behind_by", "behind_by", defArgs (top 6), defBody (top 6), defScope (top 6), [], []⟩
def h_word_by : He.DefD := ⟨("word_by", none), "word_by", "word_by", defArgs (top 7), defBody (top 7), defScope (top 7), [], []⟩
def h_check_kinds : He.DefD := ⟨("check_kinds", none), "check_kinds", "check_kinds", defArgs (top 8), defBody (top 8), defScope (top 8), [], []⟩
def h_passings : He.DefD := ⟨("passings", none), "passings", "passings", defArgs (top 9), defBody (top 9), defScope (top 9), [], []⟩
def h_a_course : He.DefD := ⟨("a_course", none), "a_course", "a_course", defArgs (top 10), defBody (top 10), defScope (top 10), [], []⟩
def h_is_course : He.DefD := ⟨("is_course", none), "is_course", "is_course", defArgs (top 11), defBody (top 11), defScope (top 11), [], []⟩
def h_between : He.DefD := ⟨("between", none), "between", "between", defArgs (top 12), defBody (top 12), defScope (top 12), [], []⟩
def h_middle : He.DefD := ⟨("middle", none), "middle", "middle", defArgs (top 13), defBody (top 13), defScope (top 13), [], []⟩
def h_law_box : He.DefD := ⟨("_law_box", none), "_law_box", "_law_box", defArgs (top 15), defBody (top 15), defScope (top 15), [], []⟩
def h_law_take : He.DefD := ⟨("_law_take", none), "_law_take", "_law_take", defArgs (top 16), defBody (top 16), defScope (top 16), [], []⟩
def h_law_cells : He.DefD := ⟨("_law_cells", none), "_law_cells", "_law_cells", defArgs (top 17), defBody (top 17), defScope (top 17), [], []⟩
def h_law_of : He.DefD := ⟨("_law_of", none), "_law_of", "_law_of", defArgs (top 18), defBody (top 18), defScope (top 18), [], []⟩
def h_law_pick : He.DefD := ⟨("_law_pick", none), "_law_pick", "_law_pick", defArgs (top 19), defBody (top 19), defScope (top 19), [], []⟩
def h_law_lists : He.DefD := ⟨("_law_lists", none), "_law_lists", "_law_lists", defArgs (top 20), defBody (top 20), defScope (top 20), [], []⟩
def h_law_same : He.DefD := ⟨("_law_same", none), "_law_same", "_law_same", defArgs (top 21), defBody (top 21), defScope (top 21), [], []⟩
def h_law_split : He.DefD := ⟨("_law_split", none), "_law_split", "_law_split", defArgs (top 22), defBody (top 22), defScope (top 22), [], []⟩
def h_law_no_cross : He.DefD := ⟨("_law_no_cross", none), "_law_no_cross", "_law_no_cross", defArgs (top 23), defBody (top 23), defScope (top 23), [], []⟩
def h_law_flat : He.DefD := ⟨("_law_flat", none), "_law_flat", "_law_flat", defArgs (top 24), defBody (top 24), defScope (top 24), [], []⟩
def h_law_seams : He.DefD := ⟨("_law_seams", none), "_law_seams", "_law_seams", defArgs (top 25), defBody (top 25), defScope (top 25), [], []⟩
def h_law_rows : He.DefD := ⟨("_law_rows", none), "_law_rows", "_law_rows", defArgs (top 26), defBody (top 26), defScope (top 26), [], []⟩
def h_law_word : He.DefD := ⟨("_law_word", none), "_law_word", "_law_word", defArgs (top 27), defBody (top 27), defScope (top 27), [], []⟩
def h_law_shape : He.DefD := ⟨("_law_shape", none), "_law_shape", "_law_shape", defArgs (top 28), defBody (top 28), defScope (top 28), [], []⟩
def h_law_next : He.DefD := ⟨("_law_next", none), "_law_next", "_law_next", defArgs (top 29), defBody (top 29), defScope (top 29), [], []⟩
def h_law_steps : He.DefD := ⟨("_law_steps", none), "_law_steps", "_law_steps", defArgs (top 30), defBody (top 30), defScope (top 30), [], []⟩
def h_law_heard : He.DefD := ⟨("_law_heard", none), "_law_heard", "_law_heard", defArgs (top 31), defBody (top 31), defScope (top 31), [], []⟩
def h_law_by_hand_right : He.DefD := ⟨("_law_by_hand_right", none), "_law_by_hand_right", "_law_by_hand_right", defArgs (top 32), defBody (top 32), defScope (top 32), [], []⟩
def h_law_right : He.DefD := ⟨("_law_right", none), "_law_right", "_law_right", defArgs (top 33), defBody (top 33), defScope (top 33), [], []⟩
def h_law_many : He.DefD := ⟨("_law_many", none), "_law_many", "_law_many", defArgs (top 34), defBody (top 34), defScope (top 34), [], []⟩
def h_law : He.DefD := ⟨("law", none), "law", "law", defArgs (top 35), defBody (top 35), defScope (top 35), [], []⟩
def fn : List He.DefD := [h_tupled, h_next_forms, h_behind_by, h_word_by, h_check_kinds, h_passings, h_a_course, h_is_course, h_between, h_middle, h_law_box, h_law_take, h_law_cells, h_law_of, h_law_pick, h_law_lists, h_law_same, h_law_split, h_law_no_cross, h_law_flat, h_law_seams, h_law_rows, h_law_word, h_law_shape, h_law_next, h_law_steps, h_law_heard, h_law_by_hand_right, h_law_right, h_law_many, h_law]
def fa : List He.Fa := (fn.map fun d => He.Fa.glo d.name) ++ blt.map He.Fa.free ++ [.glo "OtherKind", .exc "OtherKind", .exm "OtherKind" "OtherKind" true]
theorem ok_tupled {K : PySem.W.Frag} {h : Heap} {mg : Str → Option Value} (X : K.In h) (G : h.Ns mainGlobals mg) (c : He.SaysD fa fn K) : DefOk K mg d_tupled where
  nt := fun h => by first | rfl | cases h
  sc := C8.fnScope_by (by kernel_rfl)
  ex := by
    obtain ⟨fd, F⟩ := c.def_ 0 (d := h_tupled) rfl
    exact ⟨_, fd, defArgs (top 3), He.glo_ok X G (c.fact 0 (f := .glo "tupled") rfl), F, fun _ => ⟨fun _ _ _ _ _ _ us hl => match us, hl with | [_], _ => rfl, fun ks hks => nomatch hks⟩, fun h => nomatch (show false = true from h)⟩
theorem ok_next_forms {K : PySem.W.Frag} {h : Heap} {mg : Str → Option Value} (X : K.In h) (G : h.Ns mainGlobals mg) (c : He.SaysD fa fn K) : DefOk K mg d_next_forms where
  nt := fun h => by first | rfl | cases h
  sc := C8.fnScope_by (by kernel_rfl)
  ex := by
    obtain ⟨fd, F⟩ := c.def_ 1 (d := h_next_forms) rfl
    exact ⟨_, fd, defArgs (top 5), He.glo_ok X G (c.fact 1 (f := .glo "next_forms") rfl), F, fun _ => ⟨fun _ _ _ _ _ _ us hl => match us, hl with | [_], _ => rfl, (fun ks hks => by
      simp only [d_next_forms, List.mem_cons, List.mem_singleton, List.not_mem_nil, or_false] at hks
      rcases hks with rfl
      · intro js hj
        cases (show some [0] = some js from hj)
        exact fun _ _ _ _ _ _ ws hl => match ws, hl with | [_], _ => rfl)⟩, fun h => nomatch (show false = true from h)⟩
theorem ok_behind_by {K : PySem.W.Frag} {h : Heap} {mg : Str → Option Value} (X : K.In h) (G : h.Ns mainGlobals mg) (c : He.SaysD fa fn K) : DefOk K mg d_behind_by where
  nt := fun h => by first | rfl | cases h
  sc := C8.fnScope_by (by kernel_rfl)
  ex := by
    obtain ⟨fd, F⟩ := c.def_ 2 (d := h_behind_by) rfl
    exact ⟨_, fd, defArgs (top 6), He.glo_ok X G (c.fact 2 (f := .glo "behind_by") rfl), F, fun _ => ⟨fun _ _ _ _ _ _ us hl => match us, hl with | [_], _ => rfl, fun ks hks => nomatch hks⟩, fun h => nomatch (show false = true from h)⟩
theorem ok_word_by {K : PySem.W.Frag} {h : Heap} {mg : Str → Option Value} (X : K.In h) (G : h.Ns mainGlobals mg) (c : He.SaysD fa fn K) : DefOk K mg d_word_by where
  nt := fun h => by first | rfl | cases h
  sc := C8.fnScope_by (by kernel_rfl)
  ex := by
    obtain ⟨fd, F⟩ := c.def_ 3 (d := h_word_by) rfl
    exact ⟨_, fd, defArgs (top 7), He.glo_ok X G (c.fact 3 (f := .glo "word_by") rfl), F, fun _ => ⟨fun _ _ _ _ _ _ us hl => match us, hl with | [_, _], _ => rfl, fun ks hks => nomatch hks⟩, fun h => nomatch (show false = true from h)⟩
theorem ok_check_kinds {K : PySem.W.Frag} {h : Heap} {mg : Str → Option Value} (X : K.In h) (G : h.Ns mainGlobals mg) (c : He.SaysD fa fn K) : DefOk K mg d_check_kinds where
  nt := fun h => by first | rfl | cases h
  sc := C8.fnScope_by (by kernel_rfl)
  ex := by
    obtain ⟨fd, F⟩ := c.def_ 4 (d := h_check_kinds) rfl
    exact ⟨_, fd, defArgs (top 8), He.glo_ok X G (c.fact 4 (f := .glo "check_kinds") rfl), F, fun h => absurd (show true = false from h) (by decide), fun _ => ⟨rfl, "forms", rfl, fun _ _ _ _ _ _ rest => by cases rest <;> rfl⟩⟩
theorem ok_passings {K : PySem.W.Frag} {h : Heap} {mg : Str → Option Value} (X : K.In h) (G : h.Ns mainGlobals mg) (c : He.SaysD fa fn K) : DefOk K mg d_passings where
  nt := fun h => by first | rfl | cases h
  sc := C8.fnScope_by (by kernel_rfl)
  ex := by
    obtain ⟨fd, F⟩ := c.def_ 5 (d := h_passings) rfl
    exact ⟨_, fd, defArgs (top 9), He.glo_ok X G (c.fact 5 (f := .glo "passings") rfl), F, fun _ => ⟨fun _ _ _ _ _ _ us hl => match us, hl with | [_, _], _ => rfl, (fun ks hks => by
      simp only [d_passings, List.mem_cons, List.mem_singleton, List.not_mem_nil, or_false] at hks
      rcases hks with rfl
      · intro js hj
        cases (show some [1, 0] = some js from hj)
        exact fun _ _ _ _ _ _ ws hl => match ws, hl with | [_, _], _ => rfl)⟩, fun h => nomatch (show false = true from h)⟩
theorem ok_a_course {K : PySem.W.Frag} {h : Heap} {mg : Str → Option Value} (X : K.In h) (G : h.Ns mainGlobals mg) (c : He.SaysD fa fn K) : DefOk K mg d_a_course where
  nt := fun h => by first | rfl | cases h
  sc := C8.fnScope_by (by kernel_rfl)
  ex := by
    obtain ⟨fd, F⟩ := c.def_ 6 (d := h_a_course) rfl
    exact ⟨_, fd, defArgs (top 10), He.glo_ok X G (c.fact 6 (f := .glo "a_course") rfl), F, fun _ => ⟨fun _ _ _ _ _ _ us hl => match us, hl with | [_, _], _ => rfl, fun ks hks => nomatch hks⟩, fun h => nomatch (show false = true from h)⟩
theorem ok_is_course {K : PySem.W.Frag} {h : Heap} {mg : Str → Option Value} (X : K.In h) (G : h.Ns mainGlobals mg) (c : He.SaysD fa fn K) : DefOk K mg d_is_course where
  nt := fun h => by first | rfl | cases h
  sc := C8.fnScope_by (by kernel_rfl)
  ex := by
    obtain ⟨fd, F⟩ := c.def_ 7 (d := h_is_course) rfl
    exact ⟨_, fd, defArgs (top 11), He.glo_ok X G (c.fact 7 (f := .glo "is_course") rfl), F, fun _ => ⟨fun _ _ _ _ _ _ us hl => match us, hl with | [_, _, _], _ => rfl, fun ks hks => nomatch hks⟩, fun h => nomatch (show false = true from h)⟩
theorem ok_between {K : PySem.W.Frag} {h : Heap} {mg : Str → Option Value} (X : K.In h) (G : h.Ns mainGlobals mg) (c : He.SaysD fa fn K) : DefOk K mg d_between where
  nt := fun h => by first | rfl | cases h
  sc := C8.fnScope_by (by kernel_rfl)
  ex := by
    obtain ⟨fd, F⟩ := c.def_ 8 (d := h_between) rfl
    exact ⟨_, fd, defArgs (top 12), He.glo_ok X G (c.fact 8 (f := .glo "between") rfl), F, fun _ => ⟨fun _ _ _ _ _ _ us hl => match us, hl with | [_, _, _], _ => rfl, fun ks hks => nomatch hks⟩, fun h => nomatch (show false = true from h)⟩
theorem ok_middle {K : PySem.W.Frag} {h : Heap} {mg : Str → Option Value} (X : K.In h) (G : h.Ns mainGlobals mg) (c : He.SaysD fa fn K) : DefOk K mg d_middle where
  nt := fun h => by first | rfl | cases h
  sc := C8.fnScope_by (by kernel_rfl)
  ex := by
    obtain ⟨fd, F⟩ := c.def_ 9 (d := h_middle) rfl
    exact ⟨_, fd, defArgs (top 13), He.glo_ok X G (c.fact 9 (f := .glo "middle") rfl), F, fun _ => ⟨fun _ _ _ _ _ _ us hl => match us, hl with | [_, _, _], _ => rfl, fun ks hks => nomatch hks⟩, fun h => nomatch (show false = true from h)⟩
theorem ok_law_box {K : PySem.W.Frag} {h : Heap} {mg : Str → Option Value} (X : K.In h) (G : h.Ns mainGlobals mg) (c : He.SaysD fa fn K) : DefOk K mg d_law_box where
  nt := fun h => by first | rfl | cases h
  sc := C8.fnScope_by (by kernel_rfl)
  ex := by
    obtain ⟨fd, F⟩ := c.def_ 10 (d := h_law_box) rfl
    exact ⟨_, fd, defArgs (top 15), He.glo_ok X G (c.fact 10 (f := .glo "_law_box") rfl), F, fun _ => ⟨fun _ _ _ _ _ _ us hl => match us, hl with | [_, _], _ => rfl, fun ks hks => nomatch hks⟩, fun h => nomatch (show false = true from h)⟩
theorem ok_law_take {K : PySem.W.Frag} {h : Heap} {mg : Str → Option Value} (X : K.In h) (G : h.Ns mainGlobals mg) (c : He.SaysD fa fn K) : DefOk K mg d_law_take where
  nt := fun h => by first | rfl | cases h
  sc := C8.fnScope_by (by kernel_rfl)
  ex := by
    obtain ⟨fd, F⟩ := c.def_ 11 (d := h_law_take) rfl
    exact ⟨_, fd, defArgs (top 16), He.glo_ok X G (c.fact 11 (f := .glo "_law_take") rfl), F, fun _ => ⟨fun _ _ _ _ _ _ us hl => match us, hl with | [_, _], _ => rfl, fun ks hks => nomatch hks⟩, fun h => nomatch (show false = true from h)⟩
theorem ok_law_cells {K : PySem.W.Frag} {h : Heap} {mg : Str → Option Value} (X : K.In h) (G : h.Ns mainGlobals mg) (c : He.SaysD fa fn K) : DefOk K mg d_law_cells where
  nt := fun h => by first | rfl | cases h
  sc := C8.fnScope_by (by kernel_rfl)
  ex := by
    obtain ⟨fd, F⟩ := c.def_ 12 (d := h_law_cells) rfl
    exact ⟨_, fd, defArgs (top 17), He.glo_ok X G (c.fact 12 (f := .glo "_law_cells") rfl), F, fun _ => ⟨fun _ _ _ _ _ _ us hl => match us, hl with | [_, _], _ => rfl, fun ks hks => nomatch hks⟩, fun h => nomatch (show false = true from h)⟩
theorem ok_law_of {K : PySem.W.Frag} {h : Heap} {mg : Str → Option Value} (X : K.In h) (G : h.Ns mainGlobals mg) (c : He.SaysD fa fn K) : DefOk K mg d_law_of where
  nt := fun h => by first | rfl | cases h
  sc := C8.fnScope_by (by kernel_rfl)
  ex := by
    obtain ⟨fd, F⟩ := c.def_ 13 (d := h_law_of) rfl
    exact ⟨_, fd, defArgs (top 18), He.glo_ok X G (c.fact 13 (f := .glo "_law_of") rfl), F, fun _ => ⟨fun _ _ _ _ _ _ us hl => match us, hl with | [_, _], _ => rfl, fun ks hks => nomatch hks⟩, fun h => nomatch (show false = true from h)⟩
theorem ok_law_pick {K : PySem.W.Frag} {h : Heap} {mg : Str → Option Value} (X : K.In h) (G : h.Ns mainGlobals mg) (c : He.SaysD fa fn K) : DefOk K mg d_law_pick where
  nt := fun h => by first | rfl | cases h
  sc := C8.fnScope_by (by kernel_rfl)
  ex := by
    obtain ⟨fd, F⟩ := c.def_ 14 (d := h_law_pick) rfl
    exact ⟨_, fd, defArgs (top 19), He.glo_ok X G (c.fact 14 (f := .glo "_law_pick") rfl), F, fun _ => ⟨fun _ _ _ _ _ _ us hl => match us, hl with | [_, _, _], _ => rfl, fun ks hks => nomatch hks⟩, fun h => nomatch (show false = true from h)⟩
theorem ok_law_lists {K : PySem.W.Frag} {h : Heap} {mg : Str → Option Value} (X : K.In h) (G : h.Ns mainGlobals mg) (c : He.SaysD fa fn K) : DefOk K mg d_law_lists where
  nt := fun h => by first | rfl | cases h
  sc := C8.fnScope_by (by kernel_rfl)
  ex := by
    obtain ⟨fd, F⟩ := c.def_ 15 (d := h_law_lists) rfl
    exact ⟨_, fd, defArgs (top 20), He.glo_ok X G (c.fact 15 (f := .glo "_law_lists") rfl), F, fun _ => ⟨fun _ _ _ _ _ _ us hl => match us, hl with | [_], _ => rfl, fun ks hks => nomatch hks⟩, fun h => nomatch (show false = true from h)⟩
theorem ok_law_same {K : PySem.W.Frag} {h : Heap} {mg : Str → Option Value} (X : K.In h) (G : h.Ns mainGlobals mg) (c : He.SaysD fa fn K) : DefOk K mg d_law_same where
  nt := fun h => by first | rfl | cases h
  sc := C8.fnScope_by (by kernel_rfl)
  ex := by
    obtain ⟨fd, F⟩ := c.def_ 16 (d := h_law_same) rfl
    exact ⟨_, fd, defArgs (top 21), He.glo_ok X G (c.fact 16 (f := .glo "_law_same") rfl), F, fun _ => ⟨fun _ _ _ _ _ _ us hl => match us, hl with | [_, _], _ => rfl, fun ks hks => nomatch hks⟩, fun h => nomatch (show false = true from h)⟩
theorem ok_law_split {K : PySem.W.Frag} {h : Heap} {mg : Str → Option Value} (X : K.In h) (G : h.Ns mainGlobals mg) (c : He.SaysD fa fn K) : DefOk K mg d_law_split where
  nt := fun h => by first | rfl | cases h
  sc := C8.fnScope_by (by kernel_rfl)
  ex := by
    obtain ⟨fd, F⟩ := c.def_ 17 (d := h_law_split) rfl
    exact ⟨_, fd, defArgs (top 22), He.glo_ok X G (c.fact 17 (f := .glo "_law_split") rfl), F, fun _ => ⟨fun _ _ _ _ _ _ us hl => match us, hl with | [_, _, _, _, _], _ => rfl, fun ks hks => nomatch hks⟩, fun h => nomatch (show false = true from h)⟩
theorem ok_law_no_cross {K : PySem.W.Frag} {h : Heap} {mg : Str → Option Value} (X : K.In h) (G : h.Ns mainGlobals mg) (c : He.SaysD fa fn K) : DefOk K mg d_law_no_cross where
  nt := fun h => by first | rfl | cases h
  sc := C8.fnScope_by (by kernel_rfl)
  ex := by
    obtain ⟨fd, F⟩ := c.def_ 18 (d := h_law_no_cross) rfl
    exact ⟨_, fd, defArgs (top 23), He.glo_ok X G (c.fact 18 (f := .glo "_law_no_cross") rfl), F, fun _ => ⟨fun _ _ _ _ _ _ us hl => match us, hl with | [_], _ => rfl, fun ks hks => nomatch hks⟩, fun h => nomatch (show false = true from h)⟩
theorem ok_law_flat {K : PySem.W.Frag} {h : Heap} {mg : Str → Option Value} (X : K.In h) (G : h.Ns mainGlobals mg) (c : He.SaysD fa fn K) : DefOk K mg d_law_flat where
  nt := fun h => by first | rfl | cases h
  sc := C8.fnScope_by (by kernel_rfl)
  ex := by
    obtain ⟨fd, F⟩ := c.def_ 19 (d := h_law_flat) rfl
    exact ⟨_, fd, defArgs (top 24), He.glo_ok X G (c.fact 19 (f := .glo "_law_flat") rfl), F, fun _ => ⟨fun _ _ _ _ _ _ us hl => match us, hl with | [_, _, _], _ => rfl, fun ks hks => nomatch hks⟩, fun h => nomatch (show false = true from h)⟩
theorem ok_law_seams {K : PySem.W.Frag} {h : Heap} {mg : Str → Option Value} (X : K.In h) (G : h.Ns mainGlobals mg) (c : He.SaysD fa fn K) : DefOk K mg d_law_seams where
  nt := fun h => by first | rfl | cases h
  sc := C8.fnScope_by (by kernel_rfl)
  ex := by
    obtain ⟨fd, F⟩ := c.def_ 20 (d := h_law_seams) rfl
    exact ⟨_, fd, defArgs (top 25), He.glo_ok X G (c.fact 20 (f := .glo "_law_seams") rfl), F, fun _ => ⟨fun _ _ _ _ _ _ us hl => match us, hl with | [_], _ => rfl, fun ks hks => nomatch hks⟩, fun h => nomatch (show false = true from h)⟩
theorem ok_law_rows {K : PySem.W.Frag} {h : Heap} {mg : Str → Option Value} (X : K.In h) (G : h.Ns mainGlobals mg) (c : He.SaysD fa fn K) : DefOk K mg d_law_rows where
  nt := fun h => by first | rfl | cases h
  sc := C8.fnScope_by (by kernel_rfl)
  ex := by
    obtain ⟨fd, F⟩ := c.def_ 21 (d := h_law_rows) rfl
    exact ⟨_, fd, defArgs (top 26), He.glo_ok X G (c.fact 21 (f := .glo "_law_rows") rfl), F, fun _ => ⟨fun _ _ _ _ _ _ us hl => match us, hl with | [_, _], _ => rfl, fun ks hks => nomatch hks⟩, fun h => nomatch (show false = true from h)⟩
theorem ok_law_word {K : PySem.W.Frag} {h : Heap} {mg : Str → Option Value} (X : K.In h) (G : h.Ns mainGlobals mg) (c : He.SaysD fa fn K) : DefOk K mg d_law_word where
  nt := fun h => by first | rfl | cases h
  sc := C8.fnScope_by (by kernel_rfl)
  ex := by
    obtain ⟨fd, F⟩ := c.def_ 22 (d := h_law_word) rfl
    exact ⟨_, fd, defArgs (top 27), He.glo_ok X G (c.fact 22 (f := .glo "_law_word") rfl), F, fun _ => ⟨fun _ _ _ _ _ _ us hl => match us, hl with | [_, _], _ => rfl, fun ks hks => nomatch hks⟩, fun h => nomatch (show false = true from h)⟩
theorem ok_law_shape {K : PySem.W.Frag} {h : Heap} {mg : Str → Option Value} (X : K.In h) (G : h.Ns mainGlobals mg) (c : He.SaysD fa fn K) : DefOk K mg d_law_shape where
  nt := fun h => by first | rfl | cases h
  sc := C8.fnScope_by (by kernel_rfl)
  ex := by
    obtain ⟨fd, F⟩ := c.def_ 23 (d := h_law_shape) rfl
    exact ⟨_, fd, defArgs (top 28), He.glo_ok X G (c.fact 23 (f := .glo "_law_shape") rfl), F, fun _ => ⟨fun _ _ _ _ _ _ us hl => match us, hl with | [_], _ => rfl, fun ks hks => nomatch hks⟩, fun h => nomatch (show false = true from h)⟩
theorem ok_law_next {K : PySem.W.Frag} {h : Heap} {mg : Str → Option Value} (X : K.In h) (G : h.Ns mainGlobals mg) (c : He.SaysD fa fn K) : DefOk K mg d_law_next where
  nt := fun h => by first | rfl | cases h
  sc := C8.fnScope_by (by kernel_rfl)
  ex := by
    obtain ⟨fd, F⟩ := c.def_ 24 (d := h_law_next) rfl
    exact ⟨_, fd, defArgs (top 29), He.glo_ok X G (c.fact 24 (f := .glo "_law_next") rfl), F, fun _ => ⟨fun _ _ _ _ _ _ us hl => match us, hl with | [_], _ => rfl, fun ks hks => nomatch hks⟩, fun h => nomatch (show false = true from h)⟩
theorem ok_law_steps {K : PySem.W.Frag} {h : Heap} {mg : Str → Option Value} (X : K.In h) (G : h.Ns mainGlobals mg) (c : He.SaysD fa fn K) : DefOk K mg d_law_steps where
  nt := fun h => by first | rfl | cases h
  sc := C8.fnScope_by (by kernel_rfl)
  ex := by
    obtain ⟨fd, F⟩ := c.def_ 25 (d := h_law_steps) rfl
    exact ⟨_, fd, defArgs (top 30), He.glo_ok X G (c.fact 25 (f := .glo "_law_steps") rfl), F, fun _ => ⟨fun _ _ _ _ _ _ us hl => match us, hl with | [_], _ => rfl, fun ks hks => nomatch hks⟩, fun h => nomatch (show false = true from h)⟩
theorem ok_law_heard {K : PySem.W.Frag} {h : Heap} {mg : Str → Option Value} (X : K.In h) (G : h.Ns mainGlobals mg) (c : He.SaysD fa fn K) : DefOk K mg d_law_heard where
  nt := fun h => by first | rfl | cases h
  sc := C8.fnScope_by (by kernel_rfl)
  ex := by
    obtain ⟨fd, F⟩ := c.def_ 26 (d := h_law_heard) rfl
    exact ⟨_, fd, defArgs (top 31), He.glo_ok X G (c.fact 26 (f := .glo "_law_heard") rfl), F, fun _ => ⟨fun _ _ _ _ _ _ us hl => match us, hl with | [_, _, _, _], _ => rfl, fun ks hks => nomatch hks⟩, fun h => nomatch (show false = true from h)⟩
theorem ok_law_by_hand_right {K : PySem.W.Frag} {h : Heap} {mg : Str → Option Value} (X : K.In h) (G : h.Ns mainGlobals mg) (c : He.SaysD fa fn K) : DefOk K mg d_law_by_hand_right where
  nt := fun h => by first | rfl | cases h
  sc := C8.fnScope_by (by kernel_rfl)
  ex := by
    obtain ⟨fd, F⟩ := c.def_ 27 (d := h_law_by_hand_right) rfl
    exact ⟨_, fd, defArgs (top 32), He.glo_ok X G (c.fact 27 (f := .glo "_law_by_hand_right") rfl), F, fun _ => ⟨fun _ _ _ _ _ _ us hl => match us, hl with | [], _ => rfl, fun ks hks => nomatch hks⟩, fun h => nomatch (show false = true from h)⟩
theorem ok_law_right {K : PySem.W.Frag} {h : Heap} {mg : Str → Option Value} (X : K.In h) (G : h.Ns mainGlobals mg) (c : He.SaysD fa fn K) : DefOk K mg d_law_right where
  nt := fun h => by first | rfl | cases h
  sc := C8.fnScope_by (by kernel_rfl)
  ex := by
    obtain ⟨fd, F⟩ := c.def_ 28 (d := h_law_right) rfl
    exact ⟨_, fd, defArgs (top 33), He.glo_ok X G (c.fact 28 (f := .glo "_law_right") rfl), F, fun _ => ⟨fun _ _ _ _ _ _ us hl => match us, hl with | [_], _ => rfl, fun ks hks => nomatch hks⟩, fun h => nomatch (show false = true from h)⟩
theorem ok_law_many {K : PySem.W.Frag} {h : Heap} {mg : Str → Option Value} (X : K.In h) (G : h.Ns mainGlobals mg) (c : He.SaysD fa fn K) : DefOk K mg d_law_many where
  nt := fun h => by first | rfl | cases h
  sc := C8.fnScope_by (by kernel_rfl)
  ex := by
    obtain ⟨fd, F⟩ := c.def_ 29 (d := h_law_many) rfl
    exact ⟨_, fd, defArgs (top 34), He.glo_ok X G (c.fact 29 (f := .glo "_law_many") rfl), F, fun _ => ⟨fun _ _ _ _ _ _ us hl => match us, hl with | [_], _ => rfl, fun ks hks => nomatch hks⟩, fun h => nomatch (show false = true from h)⟩
theorem ok_law {K : PySem.W.Frag} {h : Heap} {mg : Str → Option Value} (X : K.In h) (G : h.Ns mainGlobals mg) (c : He.SaysD fa fn K) : DefOk K mg d_law where
  nt := fun h => by first | rfl | cases h
  sc := C8.fnScope_by (by kernel_rfl)
  ex := by
    obtain ⟨fd, F⟩ := c.def_ 30 (d := h_law) rfl
    exact ⟨_, fd, defArgs (top 35), He.glo_ok X G (c.fact 30 (f := .glo "law") rfl), F, fun _ => ⟨fun _ _ _ _ _ _ us hl => match us, hl with | [_], _ => rfl, fun ks hks => nomatch hks⟩, fun h => nomatch (show false = true from h)⟩
theorem defs_ok {K : PySem.W.Frag} {h : Heap} {mg : Str → Option Value} (X : K.In h) (G : h.Ns mainGlobals mg) (c : He.SaysD fa fn K) : ∀ d ∈ defs, DefOk K mg d := by
  unfold defs
  intro d hd
  rcases List.mem_cons.mp hd with rfl | hd
  · exact ok_tupled X G c
  rcases List.mem_cons.mp hd with rfl | hd
  · exact ok_next_forms X G c
  rcases List.mem_cons.mp hd with rfl | hd
  · exact ok_behind_by X G c
  rcases List.mem_cons.mp hd with rfl | hd
  · exact ok_word_by X G c
  rcases List.mem_cons.mp hd with rfl | hd
  · exact ok_check_kinds X G c
  rcases List.mem_cons.mp hd with rfl | hd
  · exact ok_passings X G c
  rcases List.mem_cons.mp hd with rfl | hd
  · exact ok_a_course X G c
  rcases List.mem_cons.mp hd with rfl | hd
  · exact ok_is_course X G c
  rcases List.mem_cons.mp hd with rfl | hd
  · exact ok_between X G c
  rcases List.mem_cons.mp hd with rfl | hd
  · exact ok_middle X G c
  rcases List.mem_cons.mp hd with rfl | hd
  · exact ok_law_box X G c
  rcases List.mem_cons.mp hd with rfl | hd
  · exact ok_law_take X G c
  rcases List.mem_cons.mp hd with rfl | hd
  · exact ok_law_cells X G c
  rcases List.mem_cons.mp hd with rfl | hd
  · exact ok_law_of X G c
  rcases List.mem_cons.mp hd with rfl | hd
  · exact ok_law_pick X G c
  rcases List.mem_cons.mp hd with rfl | hd
  · exact ok_law_lists X G c
  rcases List.mem_cons.mp hd with rfl | hd
  · exact ok_law_same X G c
  rcases List.mem_cons.mp hd with rfl | hd
  · exact ok_law_split X G c
  rcases List.mem_cons.mp hd with rfl | hd
  · exact ok_law_no_cross X G c
  rcases List.mem_cons.mp hd with rfl | hd
  · exact ok_law_flat X G c
  rcases List.mem_cons.mp hd with rfl | hd
  · exact ok_law_seams X G c
  rcases List.mem_cons.mp hd with rfl | hd
  · exact ok_law_rows X G c
  rcases List.mem_cons.mp hd with rfl | hd
  · exact ok_law_word X G c
  rcases List.mem_cons.mp hd with rfl | hd
  · exact ok_law_shape X G c
  rcases List.mem_cons.mp hd with rfl | hd
  · exact ok_law_next X G c
  rcases List.mem_cons.mp hd with rfl | hd
  · exact ok_law_steps X G c
  rcases List.mem_cons.mp hd with rfl | hd
  · exact ok_law_heard X G c
  rcases List.mem_cons.mp hd with rfl | hd
  · exact ok_law_by_hand_right X G c
  rcases List.mem_cons.mp hd with rfl | hd
  · exact ok_law_right X G c
  rcases List.mem_cons.mp hd with rfl | hd
  · exact ok_law_many X G c
  rcases List.mem_cons.mp hd with rfl | hd
  · exact ok_law X G c
  exact (List.not_mem_nil hd).elim
theorem blt_ok {K : PySem.W.Frag} {h : Heap} {mg : Str → Option Value} (X : K.In h) (G : h.Ns mainGlobals mg) (c : He.SaysD fa fn K) : ∀ x, blt.contains x = true → mg x = none := by
  intro x hx
  have hx : x ∈ blt := List.contains_iff_mem.mp hx
  unfold blt at hx
  rcases List.mem_cons.mp hx with rfl | hx
  · exact He.free_ok X G (c.fact 31 (f := .free "len") rfl)
  rcases List.mem_cons.mp hx with rfl | hx
  · exact He.free_ok X G (c.fact 32 (f := .free "abs") rfl)
  rcases List.mem_cons.mp hx with rfl | hx
  · exact He.free_ok X G (c.fact 33 (f := .free "int") rfl)
  rcases List.mem_cons.mp hx with rfl | hx
  · exact He.free_ok X G (c.fact 34 (f := .free "tuple") rfl)
  rcases List.mem_cons.mp hx with rfl | hx
  · exact He.free_ok X G (c.fact 35 (f := .free "list") rfl)
  rcases List.mem_cons.mp hx with rfl | hx
  · exact He.free_ok X G (c.fact 36 (f := .free "sum") rfl)
  rcases List.mem_cons.mp hx with rfl | hx
  · exact He.free_ok X G (c.fact 37 (f := .free "any") rfl)
  rcases List.mem_cons.mp hx with rfl | hx
  · exact He.free_ok X G (c.fact 38 (f := .free "all") rfl)
  rcases List.mem_cons.mp hx with rfl | hx
  · exact He.free_ok X G (c.fact 39 (f := .free "min") rfl)
  rcases List.mem_cons.mp hx with rfl | hx
  · exact He.free_ok X G (c.fact 40 (f := .free "max") rfl)
  rcases List.mem_cons.mp hx with rfl | hx
  · exact He.free_ok X G (c.fact 41 (f := .free "sorted") rfl)
  rcases List.mem_cons.mp hx with rfl | hx
  · exact He.free_ok X G (c.fact 42 (f := .free "isinstance") rfl)
  rcases List.mem_cons.mp hx with rfl | hx
  · exact He.free_ok X G (c.fact 43 (f := .free "dict") rfl)
  rcases List.mem_cons.mp hx with rfl | hx
  · exact He.free_ok X G (c.fact 44 (f := .free "str") rfl)
  rcases List.mem_cons.mp hx with rfl | hx
  · exact He.free_ok X G (c.fact 45 (f := .free "bool") rfl)
  rcases List.mem_cons.mp hx with rfl | hx
  · exact He.free_ok X G (c.fact 46 (f := .free "range") rfl)
  rcases List.mem_cons.mp hx with rfl | hx
  · exact He.free_ok X G (c.fact 47 (f := .free "zip") rfl)
  rcases List.mem_cons.mp hx with rfl | hx
  · exact He.free_ok X G (c.fact 48 (f := .free "enumerate") rfl)
  rcases List.mem_cons.mp hx with rfl | hx
  · exact He.free_ok X G (c.fact 49 (f := .free "set") rfl)
  rcases List.mem_cons.mp hx with rfl | hx
  · exact He.free_ok X G (c.fact 50 (f := .free "ValueError") rfl)
  exact (List.not_mem_nil hx).elim
end K86

set_option maxRecDepth 100000
set_option maxHeartbeats 0
/-! _law_heard: its text, and how the evaluator reads its parts. -/
namespace K86
open PySem PySem.Spec L2 Dl
open PyProof.Rows hiding St
def hbody (p : Nat → Pos) : List Stmt := [.Assign [.Tuple [.Name "_law_caught" (p 0), .Name "_law_told" (p 1)] 0 (p 2)] (.Tuple [.Constant .none 0 (p 3), .Constant .none 0 (p 4)] 0 (p 5)) (p 6),
  .Try [.If (.Compare (.Name "_law_door" (p 7)) [.Lt] [.Constant (.int 2) 0 (p 8)] (p 9)) [.Assign [.Name "_law_told" (p 10)] (.Call (.Subscript (.List [.Name "passings" (p 11), .Name "a_course" (p 12)] (p 13)) (.Name "_law_door" (p 14)) (p 15)) [.Name "_law_one_so" (p 16), .Name "_law_two_so" (p 17)] [] (p 18)) (p 19)] [.Assign [.Name "_law_told" (p 20)] (.Call (.Subscript (.List [.Name "is_course" (p 21), .Name "between" (p 22), .Name "middle" (p 23)] (p 24)) (.BinOp (.Name "_law_door" (p 25)) .Sub (.Constant (.int 2) 0 (p 26)) (p 27)) (p 28)) [.Name "_law_one_so" (p 29), .Name "_law_two_so" (p 30), .Name "_law_third_so" (p 31)] [] (p 32)) (p 33)] (p 34)] [.ExceptHandler (some (.Name "OtherKind" (p 35))) (some "error") [.Assign [.Name "_law_caught" (p 36)] (.Name "error" (p 37)) (p 38)] (p 39)] [] [] (p 40),
  .Return (some (.IfExp (.Compare (.Name "_law_caught" (p 41)) [.Is] [.Constant .none 0 (p 42)] (p 43)) (.Name "_law_told" (p 44)) (.List [.Constant (.str "other") 0 (p 45), .Call (.Name "isinstance" (p 46)) [.Name "_law_caught" (p 47), .Name "ValueError" (p 48)] [] (p 49)] (p 50)) (p 51))) (p 52)]
def hplaces : List Pos := [⟨179, 4, 179, 15⟩, ⟨179, 17, 179, 26⟩, ⟨179, 4, 179, 26⟩, ⟨179, 30, 179, 34⟩, ⟨179, 36, 179, 40⟩, ⟨179, 29, 179, 41⟩, ⟨179, 4, 179, 41⟩, ⟨181, 11, 181, 20⟩, ⟨181, 23, 181, 24⟩, ⟨181, 11, 181, 24⟩, ⟨182, 12, 182, 21⟩, ⟨182, 25, 182, 33⟩, ⟨182, 35, 182, 43⟩, ⟨182, 24, 182, 44⟩, ⟨182, 45, 182, 54⟩, ⟨182, 24, 182, 55⟩, ⟨182, 56, 182, 67⟩, ⟨182, 69, 182, 80⟩, ⟨182, 24, 182, 81⟩, ⟨182, 12, 182, 81⟩, ⟨184, 12, 184, 21⟩, ⟨184, 25, 184, 34⟩, ⟨184, 36, 184, 43⟩, ⟨184, 45, 184, 51⟩, ⟨184, 24, 184, 52⟩, ⟨184, 53, 184, 62⟩, ⟨184, 65, 184, 66⟩, ⟨184, 53, 184, 66⟩, ⟨184, 24, 184, 67⟩, ⟨184, 68, 184, 79⟩, ⟨184, 81, 184, 92⟩, ⟨184, 94, 184, 107⟩, ⟨184, 24, 184, 108⟩, ⟨184, 12, 184, 108⟩, ⟨181, 8, 184, 108⟩, ⟨185, 11, 185, 20⟩, ⟨186, 8, 186, 19⟩, ⟨186, 22, 186, 27⟩, ⟨186, 8, 186, 27⟩, ⟨185, 4, 186, 27⟩, ⟨180, 4, 186, 27⟩, ⟨187, 24, 187, 35⟩, ⟨187, 39, 187, 43⟩, ⟨187, 24, 187, 43⟩, ⟨187, 11, 187, 20⟩, ⟨187, 50, 187, 57⟩, ⟨187, 59, 187, 69⟩, ⟨187, 70, 187, 81⟩, ⟨187, 83, 187, 93⟩, ⟨187, 59, 187, 94⟩, ⟨187, 49, 187, 95⟩, ⟨187, 11, 187, 95⟩, ⟨187, 4, 187, 95⟩]
theorem heard_is : d_law_heard.body = hbody fun i => hplaces.getD i ⟨0, 0, 0, 0⟩ := by kernel_rfl
end K86

set_option maxRecDepth 100000
set_option maxHeartbeats 4000000
/-! _law_heard, shown by hand. -/
namespace K86
open PySem PySem.Spec L2 Dl
open PyProof.Rows hiding St
/-- which function, with what -/
def heardJ (G : GT) (i : Int) (a b t : Dl.D) : Option (FnI × List Dl.D) := match decide (i < 2) with
  | true => (match atI (["passings", "a_course"] : List Str) i with | some x => (G x).map fun I => (I, [a, b]) | none => none)
  | false => (match atI (["is_course", "between", "middle"] : List Str) (i - 2) with | some x => (G x).map fun I => (I, [a, b, t]) | none => none)
def heardV (I : FnI) (ys : List Dl.D) : Option (Dl.D × List Dl.D) := match !I.tab && !I.star && !I.own && decide (ys.length = I.ps.length) with
  | true => match I.rz ys with
    | true => some (.list [.str "other", .bool true], [])
    | false => match I.sem [] ys with
      | some (d, []) => some (d, [])
      | _ => none
  | false => none
def heardSem (G : GT) : List Dl.D → List Dl.D → Option (Dl.D × List Dl.D)
  | [], [.int i, a, b, t] => match heardJ G i a b t with
    | some (I, ys) => heardV I ys
    | none => none
  | _, _ => none
def heardI (G : GT) : FnI := ⟨["_law_door", "_law_one_so", "_law_two_so", "_law_third_so"], false, false, false, [], false, heardSem G, fun _ => false⟩
abbrev p (i : Nat) : Pos := hplaces.getD i ⟨0, 0, 0, 0⟩
abbrev hc (G : GT) : Ct := ctOf G blt d_law_heard
section
variable (G : GT)
theorem h_s1 : evS 60 (hc G) (.Assign [.Tuple [.Name "_law_caught" (p 0), .Name "_law_told" (p 1)] 0 (p 2)] (.Tuple [.Constant .none 0 (p 3), .Constant .none 0 (p 4)] 0 (p 5)) (p 6)) = S.par 4 5 false false (C.const .none) (C.const .none) := by
  kernel_rfl
theorem h_test : evT 60 (hc G) (.Compare (.Name "_law_door" (p 7)) [.Lt] [.Constant (.int 2) 0 (p 8)] (p 9)) = C.cmp (cmpOp .Lt) (C.var 0) (C.const (.int 2)) := by kernel_rfl
theorem h_ix2 : evE 60 (hc G) (.Name "_law_door" (p 14)) = C.var 0 := by kernel_rfl
theorem h_ix3 : evE 60 (hc G) (.BinOp (.Name "_law_door" (p 25)) .Sub (.Constant (.int 2) 0 (p 26)) (p 27)) = C.bin (binOp .Sub) (C.var 0) (C.const (.int 2)) := by kernel_rfl
theorem h_a2 : evA 60 (hc G) [.Name "_law_one_so" (p 16), .Name "_law_two_so" (p 17)] = C.cons (C.var 1) (C.cons (C.var 2) C.nil) := by kernel_rfl
theorem h_a3 : evA 60 (hc G) [.Name "_law_one_so" (p 29), .Name "_law_two_so" (p 30), .Name "_law_third_so" (p 31)] = C.cons (C.var 1) (C.cons (C.var 2) (C.cons (C.var 3) C.nil)) := by kernel_rfl
abbrev hList : Expr := .List [.Constant (.str "other") 0 (p 45), .Call (.Name "isinstance" (p 46)) [.Name "_law_caught" (p 47), .Name "ValueError" (p 48)] [] (p 49)] (p 50)
abbrev hRet : Stmt := .Return (some (.IfExp (.Compare (.Name "_law_caught" (p 41)) [.Is] [.Constant .none 0 (p 42)] (p 43)) (.Name "_law_told" (p 44)) hList (p 51))) (p 52)
theorem h_ret : evS 60 (hc G) hRet = S.ret (C.ifx (C.cmp (cmpOp .Is) (C.var 4) (C.const .none)) (C.var 5) (evE 58 (hc G) hList)) := by kernel_rfl
end
/-- names of functions, one behind another -/
theorem pa_globs {X : Cx} : ∀ (l : List (Str × Pos)), (∀ q ∈ l, Gl X q.1 ∧ (q.1 == ("__debug__" : Str)) = false ∧ ∃ f, X.mg q.1 = some (.ref f)) →
    ∃ fs : List Addr, fs.length = l.length ∧ (∀ (i : Nat) (q : Str × Pos), l[i]? = some q → ∃ f, fs[i]? = some f ∧ X.mg q.1 = some (.ref f)) ∧ PA X (l.map fun q => .Name q.1 q.2) (fun _ H Q => Q (fs.map V.ref) H)
  | [], _ => ⟨[], rfl, fun _ _ h => by simp at h, pa_nil⟩
  | q :: l, h => by
    obtain ⟨fs, e1, e2, e3⟩ := pa_globs l fun x hx => h x (List.mem_cons_of_mem _ hx)
    obtain ⟨h1, h2, f, h3⟩ := h q (List.mem_cons_self ..)
    refine ⟨f :: fs, by simp [e1], fun i x hx => ?_, ?_⟩
    · cases i with
      | zero => cases hx; exact ⟨f, rfl, h3⟩
      | succ i => exact e2 i x hx
    · exact pa_cons (pe_glob (v := .ref f) h1 h3 rfl h2) e3 (star_cons rfl)
section
variable {X : Cx} {G : GT}
/-- fs[i] -/
theorem sub_fn (F : Full X (hc G)) {l : List (Str × Pos)} (hl : l.length ≤ 3) (hg : ∀ q ∈ l, gloB (hc G).sc q.1 = true ∧ oddName q.1 = false ∧ ∃ I, G q.1 = some I) {ix : Expr} {fx : EV} (hp : isSlice ix = false) (hx : DE X [] ix false fx) {p1 p2 : Pos} {P : Pm} {ρ ρ' : Rho} {σ : SSt} {H : Hp} {j : Int} {x : Str} (g : Good (tbX X) P []) (er : ER X.K P ρ σ H) (e : fx ρ = some (.int j, ρ'))
    (hj : atI (l.map (·.1)) j = some x) {Q : VK} (q : ∀ f H', X.mg x = some (.ref f) → Nx X.K P ρ σ H ρ' σ H' → Q (.ref f) H') : Dl.WE X (.Subscript (.List (l.map fun q => .Name q.1 q.2) p1) ix p2) σ H Q := by
  obtain ⟨k, hr, hG⟩ := F.room
  obtain ⟨fs, e1, e2, e3⟩ := pa_globs (X := X) l fun q hq => by
    obtain ⟨h1, h2, I, hI⟩ := hg q hq
    obtain ⟨f, h3, _⟩ := (hG q.1 I hI).ex
    exact ⟨glo_ok F.toCok h1, (odd_ok h2).1, f, h3⟩
  refine WE.of (pe_ix ix_list (pe_lst e3) pe_we (plain_ix hp)) ⟨by rw [List.length_map, e1]; exact Nat.le_trans hl (by decide), fun pl hpl => ?_⟩
  have n1 := er.ext (Sub.upd (o := .lst (fs.map V.ref)) hpl)
  refine hx P ρ σ _ (.int j) ρ' _ g n1.er e fun u H2 o => ?_
  have hav : ∃ f, atI (fs.map V.ref) j = some (.ref f) ∧ X.mg x = some (.ref f) := by
    unfold atI at hj ⊢
    rw [List.length_map, e1]
    rw [List.length_map] at hj
    cases hix : ixN l.length j with
    | none => rw [hix] at hj; cases hj
    | some m =>
      rw [hix] at hj
      have hj : (l.map (·.1))[m]? = some x := hj
      rw [List.getElem?_map] at hj
      obtain ⟨y, hy, rfl⟩ := Option.map_eq_some_iff.mp hj
      obtain ⟨f, g1, g2⟩ := e2 m y hy
      exact ⟨f, by show (fs.map V.ref)[m]? = _; rw [List.getElem?_map, g1]; rfl, g2⟩
  obtain ⟨f, hf, hmf⟩ := hav
  have nop : ¬ Own ρ σ pl := fun w => by
    obtain ⟨u, z⟩ := er.own_some w
    rw [hpl] at z; cases z
  have hl2 : H2 pl = some (.lst (fs.map V.ref)) := o.nx.ev pl _ upd_same nop
  exact ⟨pl, fs.map V.ref, j, .ref f, rfl, dp_int o.dp, .inl (.inl hl2), hf, q f H2 hmf (n1.trans o.nx)⟩
/-- what comes of the call, or of its raising -/
structure Ends2 (X : Cx) (P : Pm) (ρ : Rho) (σ : SSt) (H : Hp) (I : FnI) (ys : List Dl.D) (W : WX) (C : Addr) (Q : VK) : Prop where
  nx : ∀ d v ρ' H', I.rz ys = false → I.sem [] ys = some (d, []) → Out false X.K P ρ σ H ρ' H' v d → ρ' = ρ → Q v H'
  rz : ∀ H', I.rz ys = true → Sub H H' → W (.ref C) none σ H'
theorem call_fn (F : Full X (hc G)) {W : WX} (tk : Takes X W) {C : Addr} (xo : ExcOk X.K X.mg C) {x : Str} {I : FnI} (hI : G x = some I) (ht : I.tab = false) (hs : I.star = false) (ho : I.own = false) {ls ix e : Expr} {es : List Expr} {pp pos : Pos} {r : AV} (hn : noStar e = true) (hm : es.all noStar = true) (ha : DA X [] (e :: es) r)
    {P : Pm} {ρ : Rho} {σ : SSt} {H : Hp} {ys : List Dl.D} (g : Good (tbX X) P []) (er : ER X.K P ρ σ H) (nown : ∀ p, ¬ Own ρ σ p) (e1 : r ρ = some (ys, ρ)) (hl : ys.length = I.ps.length) (hv : I.rz ys = true ∨ ∃ d, I.sem [] ys = some (d, [])) {Q : VK} (E2 : Ends2 X P ρ σ H I ys W C Q)
    (hf : ∀ R : VK, (∀ f H', X.mg x = some (.ref f) → Nx X.K P ρ σ H ρ σ H' → R (.ref f) H') → Dl.WE X (.Subscript ls ix pp) σ H R) : Dl.WE X (.Call (.Subscript ls ix pp) (e :: es) [] pos) σ H Q := by
  obtain ⟨k, hr, hG⟩ := F.room
  have FP := hG x I hI
  refine WE.of (pe_callV pe_we hn hm) (hf _ fun f H1 hmf n1 => ⟨f, rfl, ?_, ha P ρ σ H1 ys ρ _ g n1.er e1 fun vs H2 n2 hh pins s us J rv => ?_⟩)
  · obtain ⟨f', m1, m2, _⟩ := FP.ex
    rw [hmf] at m1
    cases m1
    exact m2
  · have n12 := n1.trans n2
    cases hz : I.rz ys with
    | true =>
      obtain ⟨f', m1, m2, _, m4⟩ := FP.rz C xo ho
      rw [hmf] at m1
      cases m1
      obtain ⟨fd, m5, m6⟩ := m4 hs
      exact run_fnS m5 hr m6 (passAt tk σ) J rv ⟨Wr P ρ σ, ys, n2.er.wok, hh, hl, hz, fun H' sb => E2.rz H' hz (Sub.trans (fun p o hp => n12.ev p o hp (nown p)) sb)⟩
    | false =>
      obtain ⟨d, hd⟩ := hv.resolve_left (by rw [hz]; exact Bool.false_ne_true)
      obtain ⟨f', m1, m2, _, m4⟩ := FP.ex
      rw [hmf] at m1
      cases m1
      obtain ⟨fd, m5, m6, _⟩ := m4 hs
      refine run_fn (dvs := []) (ds := []) (E := E0) m5 hr m6 .nil pass0 J rv ?_
      show spF (tbX X) X.K I (vs ++ []) H2 _ E0
      unfold spF
      rw [ho, List.append_nil]
      exact ⟨Wr P ρ σ, ys, d, n2.er.wok, hh, hl, hd, fun v H3 s => E2.nx d v ρ H3 hz hd (Out.call (fun z => by cases z) n12 ht s) rfl⟩
end
end K86

set_option maxRecDepth 100000
set_option maxHeartbeats 4000000
/-! _law_heard's body. -/
namespace K86
open PySem PySem.Spec L2 Dl
open PyProof.Rows hiding St
/-- what the error class says, for the clause and for isinstance -/
structure XOk (K : PySem.W.Frag) (mg : Str → Option Value) (C : Addr) : Prop where
  ex : ExcOk K mg C
  cc : ExcC K C
  em : PySem.W.exmOne K (.ref C) (.ref C) = some true
  ki : PySem.W.kitOne K (.ref C) (.type "ValueError") = some true
section
variable {X : Cx} {G : GT}
theorem Inv.atHand {a : Addr} {oe : Obj} {pins : List (Addr × Obj)} {σ : SSt} {H : Hp} {s : Shared} (I : Inv X ((a, oe) :: pins) σ H s) : Inv (X.tr ((a, oe) :: (X.pn ++ pins)) X.xe) [] σ H s :=
  ⟨I.ok.toTry _ _, I.os, I.bare, I.base, I.loc, I.cell, I.free, I.freeC, fun p hp => I.pin p (by
    rw [List.append_nil] at hp
    rcases List.mem_cons.mp hp with e | h
    · rw [e]; exact List.mem_append_right _ (List.mem_cons_self ..)
    · rcases List.mem_append.mp h with h | h
      · exact List.mem_append_left _ h
      · exact List.mem_append_right _ (List.mem_cons_of_mem _ h)), I.hok, I.len⟩
theorem Inv.letGo {a : Addr} {oe : Obj} {pins : List (Addr × Obj)} {σ : SSt} {H : Hp} {s : Shared} (I : Inv (X.tr ((a, oe) :: (X.pn ++ pins)) X.xe) [] σ H s) (ok : X.Ok) : Inv X pins σ H s :=
  ⟨ok, I.os, I.bare, I.base, I.loc, I.cell, I.free, I.freeC, fun p hp => I.pin p (by rw [List.append_nil]; exact List.mem_cons_of_mem _ hp), I.hok, I.len⟩
/-- the end, where an error was caught -/
theorem ret_caught (F : Full X (hc G)) (hN4 : X.N[4]? = some ("_law_caught" : Str)) {C a : Addr} {oe : Obj} {pins : List (Addr × Obj)} {σ : SSt} {H : Hp} {s : Shared} (xo : XOk X.K X.mg C) (hz : Zc (.ref C) none oe) (hf : ∃ vs, oe.data = .fields vs) (J : Inv X ((a, oe) :: pins) σ H s) (h4 : σ[4]? = some (some (.ref a))) {D : Ends}
    (q : ∀ p, H p = none → D.rt (.ref p) (upd H p (.lst [.str "other", .bl true]))) : wpAny (model X.prog X.w) X.A (execs [hRet] X.env) (SP X pins D) X.xe s := by
  have vis : Vis X.env.scope "_law_caught" := vis_ok F.toCok (by kernel_rfl)
  have gis : Gl X "isinstance" := glo_ok F.toCok (by kernel_rfl)
  have gve : Gl X "ValueError" := glo_ok F.toCok (by kernel_rfl)
  have mis : X.mg "isinstance" = none := F.bl "isinstance" (by kernel_rfl)
  have mve : X.mg "ValueError" = none := F.bl "ValueError" (by kernel_rfl)
  have pv : PE (X.tr ((a, oe) :: (X.pn ++ pins)) X.xe) (.Name "_law_caught" (p 41)) (tVar 4) := pe_var hN4 vis (by decide) (by decide)
  have pv2 : PE (X.tr ((a, oe) :: (X.pn ++ pins)) X.xe) (.Name "_law_caught" (p 47)) (tVar 4) := pe_var hN4 vis (by decide) (by decide)
  have hp : PSs (X.tr ((a, oe) :: (X.pn ++ pins)) X.xe) [hRet] _ :=
    pss_one (ps_ret (pe_ifExp (pt_cmpR op_isN pv pe_non rfl) (ta := fun _ _ _ => False) ⟨fun _ _ _ _ _ _ z => z.elim⟩ (pe_lst (pa_cons pe_str (pa_cons (pe_callB (call_isP xo.cc hz hf) gis mis (by rfl) (pa_cons pv2 (pa_cons (pe_bltn (v := .ty "ValueError") gve mve (by rfl) rfl) pa_nil rfl) rfl) (by decide) (by decide) rfl rfl) pa_nil rfl) rfl))))
  refine wpAny_mono (hp.run [] s σ H D (Inv.atHand J) ?_) (fun f s1 hsp => ?_) fun _ _ z => z
  · refine ⟨.ref a, h4, rfl, decide ((V.ref a) = V.non), rfl, ?_⟩
    rw [decide_eq_false (fun z => nomatch z)]
    exact ⟨.ref a, h4, .ty "ValueError", .type "ValueError", true, rfl, fun u r => r, xo.ki, by show 2 ≤ sizeLine; decide, fun p hp => q p hp⟩
  · cases f with
    | next =>
      obtain ⟨σ', H', J', q'⟩ := hsp
      exact ⟨σ', H', Inv.letGo J' J.ok, q'⟩
    | brk =>
      obtain ⟨σ', H', J', q'⟩ := hsp
      exact ⟨σ', H', Inv.letGo J' J.ok, q'⟩
    | cont =>
      obtain ⟨σ', H', J', q'⟩ := hsp
      exact ⟨σ', H', Inv.letGo J' J.ok, q'⟩
    | ret u =>
      obtain ⟨v, σ', H', J', r, q'⟩ := hsp
      exact ⟨v, σ', H', Inv.letGo J' J.ok, r, q'⟩
end
end K86

set_option maxRecDepth 100000
set_option maxHeartbeats 4000000
/-! _law_heard at every level. -/
namespace K86
open PySem PySem.Spec L2 Dl
open PyProof.Rows hiding St
section
variable {X : Cx} {G : GT}
theorem Full.tr (F : Full X (hc G)) (pn : List (Addr × Obj)) (xe : Value → Shared → Prop) : Full (X.tr pn xe) (hc G) :=
  ⟨⟨F.calm, F.N, F.nd, F.sc, F.un, F.fn, F.bl⟩, F.room⟩
abbrev hTest : Expr := .Compare (.Name "_law_door" (p 7)) [.Lt] [.Constant (.int 2) 0 (p 8)] (p 9)
abbrev hA2 : Stmt := .Assign [.Name "_law_told" (p 10)] (.Call (.Subscript (.List [.Name "passings" (p 11), .Name "a_course" (p 12)] (p 13)) (.Name "_law_door" (p 14)) (p 15)) [.Name "_law_one_so" (p 16), .Name "_law_two_so" (p 17)] [] (p 18)) (p 19)
abbrev hA3 : Stmt := .Assign [.Name "_law_told" (p 20)] (.Call (.Subscript (.List [.Name "is_course" (p 21), .Name "between" (p 22), .Name "middle" (p 23)] (p 24)) (.BinOp (.Name "_law_door" (p 25)) .Sub (.Constant (.int 2) 0 (p 26)) (p 27)) (p 28)) [.Name "_law_one_so" (p 29), .Name "_law_two_so" (p 30), .Name "_law_third_so" (p 31)] [] (p 32)) (p 33)
abbrev hIf : Stmt := .If hTest [hA2] [hA3] (p 34)
abbrev hS1 : Stmt := .Assign [.Tuple [.Name "_law_caught" (p 0), .Name "_law_told" (p 1)] 0 (p 2)] (.Tuple [.Constant .none 0 (p 3), .Constant .none 0 (p 4)] 0 (p 5)) (p 6)
abbrev hSuite : Stmt := .Assign [.Name "_law_caught" (p 36)] (.Name "error" (p 37)) (p 38)
abbrev hTry : Stmt := .Try [hIf] [.ExceptHandler (some (.Name "OtherKind" (p 35))) (some "error") [hSuite] (p 39)] [] [] (p 40)
theorem heard_body_is : d_law_heard.body = [hS1, hTry, hRet] := heard_is
def rho1 (i : Int) (a b t : Dl.D) : Rho := [.val (.int i), .val a, .val b, .val t, .val .none, .val .none, .un]
/-- the assignment in the try -/
theorem asg_told (F : Full X (hc G)) (hk : X.env.scope.kind = .function) {W : WX} (tk : Takes X W) {C : Addr} (xo : ExcOk X.K X.mg C) (hN5 : X.N[5]? = some ("_law_told" : Str)) {i : Int} {a b t : Dl.D} {I : FnI} {ys : List Dl.D} (hall : ∀ x ∈ (["passings", "a_course", "is_course", "between", "middle"] : List Str), ∃ I, G x = some I)
    (hJ : heardJ G i a b t = some (I, ys)) (hi : (!I.tab && !I.star && !I.own && decide (ys.length = I.ps.length)) = true) (hv : I.rz ys = true ∨ ∃ d, I.sem [] ys = some (d, [])) {P : Pm} {σ : SSt} {H : Hp} (g : Good (tbX X) P []) (er : ER X.K P (rho1 i a b t) σ H) (nown : ∀ p, ¬ Own (rho1 i a b t) σ p) {D : Ends}
    (nx : ∀ d v H', I.rz ys = false → I.sem [] ys = some (d, []) → Out false X.K P (rho1 i a b t) σ H (rho1 i a b t) H' v d → D.nx (σ.set 5 (some v)) H') (rz : ∀ H', I.rz ys = true → Sub H H' → W (.ref C) none σ H') : WSs X [hIf] D σ H := by
  obtain ⟨hi, h4⟩ := and_tt hi
  obtain ⟨hi, h3⟩ := and_tt hi
  obtain ⟨h1, h2⟩ := and_tt hi
  have h1 : I.tab = false := by simpa using h1
  have h2 : I.star = false := by simpa using h2
  have h3 : I.own = false := by simpa using h3
  have h4 := of_decide_eq_true h4
  have Sn := snd_all 60
  have loc : Loc X.env.scope "_law_told" := loc_ok F.toCok (by kernel_rfl)
  have hnd : X.N.Nodup := by rw [F.N]; exact F.nd
  have hfn : X.fn "_law_told" = true := by rw [F.fn]; rfl
  refine WSs.of (pss_one (ps_if pt_wt pss_wss pss_wss)) (Sn.T X (hc G) hTest F P _ σ H (decide (i < 2)) (rho1 i a b t) _ g er (by rw [h_test]; rfl) fun H1 n1 => ?_)
  have after : ∀ {Q : VK}, (∀ d v H', I.rz ys = false → I.sem [] ys = some (d, []) → Out false X.K P (rho1 i a b t) σ H (rho1 i a b t) H' v d → Q v H') → Ends2 X P (rho1 i a b t) σ H1 I ys W C Q := fun hq =>
    ⟨fun d v ρ' H' hz hd o e => by subst e; exact hq d v H' hz hd (o.after n1), fun H' hz sb => rz H' hz (Sub.trans (fun p o hp => n1.ev p o hp (nown p)) sb)⟩
  unfold heardJ at hJ
  cases hlt : decide (i < 2) with
  | true =>
    rw [hlt] at hJ
    rw [if_pos rfl]
    have hJ : (match atI (["passings", "a_course"] : List Str) i with | some x => (G x).map fun I => (I, [a, b]) | none => none) = some (I, ys) := hJ
    split at hJ
    · rename_i x hx
      obtain ⟨I', hI, hp⟩ := Option.map_eq_some_iff.mp hJ
      cases hp
      refine WSs.of (pss_one (ps_set hnd hN5 loc pe_we (swaps_no rfl) (.inl hfn))) ?_
      refine call_fn F tk xo hI h1 h2 h3 rfl rfl (Sn.A X (hc G) _ F) g n1.er nown (by rw [h_a2]; rfl) h4 hv (after fun d v H' hz hd o => nx d v H' hz hd o) fun R hR => ?_
      exact sub_fn (l := [("passings", p 11), ("a_course", p 12)]) F (by decide) (fun q hq => by
        rcases List.mem_cons.mp hq with e | hq
        · subst e; exact ⟨by kernel_rfl, by kernel_rfl, hall _ (by simp)⟩
        · rw [List.mem_singleton.mp hq]; exact ⟨by kernel_rfl, by kernel_rfl, hall _ (by simp)⟩) rfl (Sn.E X (hc G) _ F 0).weak g n1.er (by rw [h_ix2]; rfl) hx fun f H' hm n => hR f H' hm n
    · cases hJ
  | false =>
    rw [hlt] at hJ
    rw [if_neg Bool.false_ne_true]
    have hJ : (match atI (["is_course", "between", "middle"] : List Str) (i - 2) with | some x => (G x).map fun I => (I, [a, b, t]) | none => none) = some (I, ys) := hJ
    split at hJ
    · rename_i x hx
      obtain ⟨I', hI, hp⟩ := Option.map_eq_some_iff.mp hJ
      cases hp
      refine WSs.of (pss_one (ps_set hnd hN5 loc pe_we (swaps_no rfl) (.inl hfn))) ?_
      refine call_fn F tk xo hI h1 h2 h3 rfl rfl (Sn.A X (hc G) _ F) g n1.er nown (by rw [h_a3]; rfl) h4 hv (after fun d v H' hz hd o => nx d v H' hz hd o) fun R hR => ?_
      exact sub_fn (l := [("is_course", p 21), ("between", p 22), ("middle", p 23)]) F (by decide) (fun q hq => by
        rcases List.mem_cons.mp hq with e | hq
        · subst e; exact ⟨by kernel_rfl, by kernel_rfl, hall _ (by simp)⟩
        · rcases List.mem_cons.mp hq with e | hq
          · subst e; exact ⟨by kernel_rfl, by kernel_rfl, hall _ (by simp)⟩
          · rw [List.mem_singleton.mp hq]; exact ⟨by kernel_rfl, by kernel_rfl, hall _ (by simp)⟩) rfl (Sn.E X (hc G) _ F 0).weak g n1.er (by rw [h_ix3]; rfl) hx fun f H' hm n => hR f H' hm n
    · cases hJ
end
end K86

set_option maxRecDepth 100000
set_option maxHeartbeats 4000000
/-! _law_heard at every level. -/
namespace K86
open PySem PySem.Spec L2 Dl
open PyProof.Rows hiding St
section
variable {X : Cx} {G : GT}
theorem heardV_cases {I : FnI} {ys : List Dl.D} {dd : Dl.D} {out : List Dl.D} (h : heardV I ys = some (dd, out)) : (!I.tab && !I.star && !I.own && decide (ys.length = I.ps.length)) = true ∧ out = [] ∧ ((I.rz ys = true ∧ dd = .list [.str "other", .bool true]) ∨ (I.rz ys = false ∧ I.sem [] ys = some (dd, []))) := by
  unfold heardV at h
  split at h
  · rename_i hi
    split at h
    · rename_i hz
      cases h
      exact ⟨hi, rfl, .inl ⟨hz, rfl⟩⟩
    · rename_i hz
      split at h
      · rename_i d e
        cases h
        exact ⟨hi, rfl, .inr ⟨hz, e⟩⟩
      · cases h
  · cases h
theorem heard_run (F : Full X (hc G)) (hk : X.env.scope.kind = .function) (hx : PassesOwn (model X.prog X.w) X.A X.env X.xe) (hst : X.stack = X.env :: X.outer) (hfm : X.env.frame = some X.env.locals) {C : Addr} (xo : XOk X.K X.mg C)
    (hN4 : X.N[4]? = some ("_law_caught" : Str)) (hN5 : X.N[5]? = some ("_law_told" : Str)) (hN6 : X.N[6]? = some ("error" : Str)) (hln : X.env.kindOf "error" = some .local)
    (hall : ∀ x ∈ (["passings", "a_course", "is_course", "between", "middle"] : List Str), ∃ I, G x = some I)
    {i : Int} {a b t : Dl.D} {I : FnI} {ys : List Dl.D} {dd : Dl.D} {out : List Dl.D} (hJ : heardJ G i a b t = some (I, ys)) (hV : heardV I ys = some (dd, out)) {W : Addr → Prop} {H : Hp} {vs : List V} (w : Wok W H) (h : DpAll X.K (hid W H) vs [.int i, a, b, t])
    {Q : VK} (q : ∀ v H', RS (tbX X) false false X.K W H H' v dd → Q v H') : WSs X [hS1, hTry, hRet] { nx := fun _ H' => Q .non H', rt := Q } (L2.start d_law_heard.N vs) H := by
  obtain ⟨hi, _, hc2⟩ := heardV_cases hV
  have S60 := snd_S 60 X (hc G) F hk hx
  have hnd : X.N.Nodup := by rw [F.N]; exact F.nd
  obtain ⟨er, nown⟩ := start_plain (T := tbX X) (N := d_law_heard.N) (ps := d_law_heard.ps) (by decide) w h rfl
  have g : Dl.Good (tbX X) ⟨fun p => H p = none, H, W, [], tbX X⟩ [] := ⟨⟨fun p hp => hp, fun q hq => (List.not_mem_nil hq).elim⟩, fun q hq => (List.not_mem_nil hq).elim, rfl⟩
  refine WSs.of (pss_cons ps_ws pss_wss) ((S60.1 hS1) _ _ _ H .nx (rho1 i a b t) _ g er (by rw [h_s1]; rfl) fun σ1 H1 n1 => ?_)
  -- the try
  intro pins s J
  refine wpAny_execs_cons ?_
  have noO : ∀ (σ : SSt) (p : Addr), ¬ Dl.Own (rho1 i a b t) σ p := fun σ p ⟨m, x, e1, e2, _⟩ => by
    match m with
    | 0 | 1 | 2 | 3 | 4 | 5 | 6 => cases e1; exact e2
    | m + 7 => cases e1
  have len : σ1.length = 7 := n1.er.len.symm
  have sb01 : Dl.Sub H H1 := fun p o hp => n1.ev p o hp (nown p)
  -- behind the clause, or behind the body
  refine try_keep (X := X) (D := { nx := fun σ2 H2 => WSs X [hRet] { nx := fun _ H' => Q .non H', rt := Q } σ2 H2, rt := fun _ _ => False }) (c := .ref C) (i := 6) (tb := fun W D σ H => ∀ pn xe, Takes (X.tr pn xe) W → WSs (X.tr pn xe) [hIf] D σ H)
    (ts := fun a cls d D σ H => tAsg (tVar 6) (gName 4) D σ H) (R := fun a cls d σ' H' => cls = .ref C ∧ d = none ∧ σ'[4]? = some (some (.ref a)) ∧ Dl.Sub H H' ∧ I.rz ys = true)
    hst hfm hnd hN6 hln ⟨glo_ok F.toCok (by kernel_rfl), by decide, .inl xo.ex.g⟩ (fun W pn xe tk _ => ⟨fun pins s σ H D J h => h pn xe tk pins s J⟩) (fun a oe cls d pn _ _ => ?hsu) J ?h ?q1 ?q2
  case hsu =>
    exact pss_one (ps_set (X := X.suite a ((a, oe) :: pn)) hnd hN4 (loc_ok F.toCok (by kernel_rfl)) (pe_var (X := X.suite a ((a, oe) :: pn)) hN6 (vis_ok F.toCok (by kernel_rfl)) (by decide) (by decide)) rfl (.inl (by show X.fn _ = true; rw [F.fn]; rfl)))
  case h =>
    intro pn xe tk
    refine asg_told (Full.tr F pn xe) hk tk xo.ex hN5 hall hJ hi (hc2.elim (fun z => .inl z.1) fun z => .inr ⟨dd, z.2⟩) g n1.er (noO σ1) (fun d v H2 hz hd o => ?_) fun H2 hz sb => ?_
    · have ed : d = dd := by
        rcases hc2 with z | z
        · rw [z.1] at hz; cases hz
        · rw [z.2] at hd; cases hd; rfl
      subst ed
      have n5 := o.nx.er.setVal (i := 5) (show 5 < 7 from by decide) (fun q hq => (List.not_mem_nil hq).elim) o.dp
      refine WSs.of (pss_one ps_ws) ((S60.1 hRet) _ ((rho1 i a b t).set 5 (.val d)) _ H2 (.rt d) ((rho1 i a b t).set 5 (.val d)) _ g n5.er (by rw [h_ret]; rfl) fun v' σ3 H3 n3 r _ => ?_)
      have all := n1.trans (o.nx.trans (n5.trans n3))
      refine q v' H3 ⟨fun p o hp => all.ev p o hp (nown p), fun _ => dp_sub (hid_mono fun b hb => .inl hb) _ _ (RtOk.dp rfl r), fun z => (nomatch z), fun z => (nomatch z)⟩
    · refine ⟨xo.em, fun a0 ha0 => ⟨.ref a0, ?_, ?_⟩⟩
      · exact get_set_self (by rw [len]; decide)
      · refine ⟨rfl, rfl, ?_, sb01.trans sb, hz⟩
        rw [get_set_ne (by decide), get_set_self (by rw [List.length_set, len]; decide)]
  case q1 =>
    intro f s' hsp
    cases f with
    | next =>
      obtain ⟨σ2, H2, J2, q2⟩ := hsp
      exact q2 pins s' J2
    | brk => obtain ⟨_, _, _, z⟩ := hsp; exact z.elim
    | cont => obtain ⟨_, _, _, z⟩ := hsp; exact z.elim
    | ret u => obtain ⟨_, _, _, _, _, z⟩ := hsp; exact z.elim
  case q2 =>
    rintro a0 oe cls d σ2 H2 s' hz hf J2 ⟨rfl, rfl, h4, sb, hrz⟩
    have ed : dd = .list [.str "other", .bool true] := by
      rcases hc2 with z | z
      · exact z.2
      · rw [z.1] at hrz; cases hrz
    subst ed
    refine ret_caught F hN4 xo hz hf J2 h4 fun pl hpl => q _ _ ?_
    have w2 : Wok W H2 := fun p hp => by
      intro z
      obtain ⟨o, e⟩ := Option.ne_none_iff_exists'.mp (w p hp)
      rw [sb p o e] at z
      cases z
    have npl : ¬ W pl := fun hp => w2 pl hp hpl
    exact ⟨sb.trans (Sub.upd hpl), fun _ => .lst (.inl (.inl (hid_some.mpr ⟨npl, upd_same⟩))) (.cons (.str _) (.cons (.bl _) .nil)), fun z => (nomatch z), fun z => (nomatch z)⟩
end
/-- what stands in the table of defs for it -/
def ov : Ov := fun x => match decide (x = "_law_heard") with
  | true => some heardI
  | false => none
section
variable {P : Program} {w : World} {K : PySem.W.Frag} {mg : Str → Option Value} {base : Heap}
theorem heard_level {G : GT} {k : Nat} (D : DefOk K mg d_law_heard) (hB : ∀ x, blt.contains x = true → mg x = none) {C : Addr} (xo : XOk K mg C) (ih : ∀ x I, G x = some I → FnP P w K mg base k x I)
    (hall : ∀ x ∈ (["passings", "a_course", "is_course", "between", "middle"] : List Str), ∃ I, G x = some I) : FnP P w K mg base (k + 1) "_law_heard" (heardI G) := by
  obtain ⟨f, fd, args, g1, F, g2, g3⟩ := D.ex
  have S := D.sc
  have lenOk : ∀ os xs d out, heardSem G os xs = some (d, out) → xs.length = 4 ∧ os = [] ∧ ∃ i a b t, xs = [.int i, a, b, t] := fun os xs d out z => by
    unfold heardSem at z
    split at z
    · exact ⟨rfl, rfl, _, _, _, _, rfl⟩
    · cases z
  refine ⟨fun _ os xs d out z => by rw [(lenOk os xs d out z).1]; rfl, ⟨f, g1, F.kp, fun z => (nomatch z), fun hs => ⟨fd, ?_, FunD.bindsN F (g2 rfl).1, fun ks hks => (nomatch hks), fun_at F⟩⟩, fun C xo ho => ⟨f, g1, F.kp, fun z => (nomatch z), fun hs => ⟨fd, ?_, FunD.bindsN F (g2 rfl).1⟩⟩⟩
  · refine F.ok S (fun vs H Q E z => ?_) fun cdv A outer s H vs Q E hr z => ⟨WSs (defCx P w K mg base d_law_heard f cdv A outer s H E) d_law_heard.body, PSs.nox pss_wss, ?_⟩
    · obtain ⟨W, es, dd, _, h1, h2, _⟩ := (show spN (TabO P w) K (heardI G) vs H Q E from z)
      rw [DpAll.length h1]
      exact h2
    · obtain ⟨W, es, dd, w1, w2, w3, w4, w5⟩ := (show spN (TabO P w) K (heardI G) vs H Q E from z)
      have w4 : heardSem G [] es = some (dd, []) := w4
      obtain ⟨_, _, i, a, b, t, rfl⟩ := lenOk _ _ _ _ w4
      have w4 : (match heardJ G i a b t with | some (I, ys) => heardV I ys | none => none) = some (dd, []) := w4
      split at w4
      · rename_i I ys hJ
        rw [heard_body_is]
        exact heard_run (def_full S hr hB ih) S.kind PassesOwn.never rfl rfl xo rfl rfl rfl (by kernel_rfl) hall hJ w4 w1 w2 w5
      · cases w4
  · have no : ∀ vs H Q E, spR K (heardI G) C vs H Q E → False := fun vs H Q E z => by
      obtain ⟨W, es, _, _, _, z, _⟩ := z
      cases z
    exact ⟨fun vs H Q E z => (no vs H Q E z).elim, fun A outer s H args us vs Q E _ _ _ _ z => (no vs H Q E z).elim⟩
end
end K86

set_option maxRecDepth 100000
set_option maxHeartbeats 0
/-! What each def's body is, as combinators. -/
namespace K86
open PySem PySem.Spec L2 Dl
open PyProof.Rows hiding St
abbrev augF : Dl.D → Dl.D → Option Dl.D := fun d e => match d, e with | .int k, .int j => some (.int (k + j)) | _, _ => none
abbrev I_tupled (k : Nat) : FnI := infoOf (GsO ov defs blt k) blt d_tupled
abbrev I_next_forms (k : Nat) : FnI := infoOf (GsO ov defs blt k) blt d_next_forms
abbrev I_behind_by (k : Nat) : FnI := infoOf (GsO ov defs blt k) blt d_behind_by
abbrev I_word_by (k : Nat) : FnI := infoOf (GsO ov defs blt k) blt d_word_by
abbrev I_check_kinds (k : Nat) : FnI := infoOf (GsO ov defs blt k) blt d_check_kinds
abbrev I_passings (k : Nat) : FnI := infoOf (GsO ov defs blt k) blt d_passings
abbrev I_a_course (k : Nat) : FnI := infoOf (GsO ov defs blt k) blt d_a_course
abbrev I_is_course (k : Nat) : FnI := infoOf (GsO ov defs blt k) blt d_is_course
abbrev I_between (k : Nat) : FnI := infoOf (GsO ov defs blt k) blt d_between
abbrev I_middle (k : Nat) : FnI := infoOf (GsO ov defs blt k) blt d_middle
abbrev I_law_box (k : Nat) : FnI := infoOf (GsO ov defs blt k) blt d_law_box
abbrev I_law_take (k : Nat) : FnI := infoOf (GsO ov defs blt k) blt d_law_take
abbrev I_law_cells (k : Nat) : FnI := infoOf (GsO ov defs blt k) blt d_law_cells
abbrev I_law_of (k : Nat) : FnI := infoOf (GsO ov defs blt k) blt d_law_of
abbrev I_law_pick (k : Nat) : FnI := infoOf (GsO ov defs blt k) blt d_law_pick
abbrev I_law_lists (k : Nat) : FnI := infoOf (GsO ov defs blt k) blt d_law_lists
abbrev I_law_same (k : Nat) : FnI := infoOf (GsO ov defs blt k) blt d_law_same
abbrev I_law_split (k : Nat) : FnI := infoOf (GsO ov defs blt k) blt d_law_split
abbrev I_law_no_cross (k : Nat) : FnI := infoOf (GsO ov defs blt k) blt d_law_no_cross
abbrev I_law_flat (k : Nat) : FnI := infoOf (GsO ov defs blt k) blt d_law_flat
abbrev I_law_seams (k : Nat) : FnI := infoOf (GsO ov defs blt k) blt d_law_seams
abbrev I_law_rows (k : Nat) : FnI := infoOf (GsO ov defs blt k) blt d_law_rows
abbrev I_law_word (k : Nat) : FnI := infoOf (GsO ov defs blt k) blt d_law_word
abbrev I_law_shape (k : Nat) : FnI := infoOf (GsO ov defs blt k) blt d_law_shape
abbrev I_law_next (k : Nat) : FnI := infoOf (GsO ov defs blt k) blt d_law_next
abbrev I_law_steps (k : Nat) : FnI := infoOf (GsO ov defs blt k) blt d_law_steps
abbrev I_law_heard (k : Nat) : FnI := heardI (GsO ov defs blt k)
abbrev I_law_by_hand_right (k : Nat) : FnI := infoOf (GsO ov defs blt k) blt d_law_by_hand_right
abbrev I_law_right (k : Nat) : FnI := infoOf (GsO ov defs blt k) blt d_law_right
abbrev I_law_many (k : Nat) : FnI := infoOf (GsO ov defs blt k) blt d_law_many
abbrev I_law (k : Nat) : FnI := infoOf (GsO ov defs blt k) blt d_law
def l_tupled_1 (k : Nat) : EV := C.lc [1] (C.iter (C.var 0)) (C.tgName 1) C.yes (C.call (I_tupled k) (C.cons (C.var 1) C.nil))
def z_tupled (k : Nat) : ZV :=
  S.ret (C.ifx (C.test (C.un1 (fun d => some (.bool (isTys [.list, .tuple] d))) (C.var 0))) (C.un1 opTuple (l_tupled_1 k)) (C.var 0))
theorem zz_tupled (k : Nat) : evZ 60 (ctOf (GsO ov defs blt (k + 1)) blt d_tupled) d_tupled.body = z_tupled k := by kernel_rfl
def b_next_forms_1 (k : Nat) : ZV :=
  S.ite (C.cmp (cmpOp .NotEq) (C.subOwn 7 (C.var 8)) (C.subOwn 7 (C.bin (binOp .Add) (C.var 8) (C.const (.int 1))))) (S.seq (S.asg 9 true (C.bin (binOp .Add) (C.bin (binOp .Add) (C.bin (binOp .Add) (C.sl (C.var 7) C.noPart (C.part (C.var 8))) (C.subOwn 7 (C.bin (binOp .Add) (C.var 8) (C.const (.int 1))))) (C.subOwn 7 (C.var 8))) (C.sl (C.var 7) (C.part (C.bin (binOp .Add) (C.var 8) (C.const (.int 2)))) C.noPart))) <|
  S.append 2 (C.tup (C.star (C.sl (C.var 1) C.noPart (C.part (C.var 3))) (C.cons (C.tup (C.cons (C.var 4) (C.cons (C.var 5) (C.cons (C.var 6) (C.cons (C.var 9) C.nil))))) (C.star (C.sl (C.var 1) (C.part (C.bin (binOp .Add) (C.var 3) (C.const (.int 1)))) C.noPart) C.nil))))) S.skip
def b_next_forms_2 (k : Nat) : ZV :=
  S.for_ (C.range1 (C.bin (binOp .Sub) (C.lenOwn 7) (C.const (.int 1)))) (C.tgName 8) (b_next_forms_1 k)
def z_next_forms (k : Nat) : ZV :=
  S.seq (S.par 1 2 false true (C.call (I_tupled k) (C.cons (C.var 0) C.nil)) (C.lst C.nil)) <|
  S.seq (S.for_ (C.enum (C.var 1)) (C.tgTup (C.tgCons (C.tgName 3) (C.tgCons (C.tgTup (C.tgCons (C.tgName 4) (C.tgCons (C.tgName 5) (C.tgCons (C.tgName 6) (C.tgCons (C.tgName 7) C.tgNil))))) C.tgNil))) (b_next_forms_2 k)) <|
  S.ret (C.un1 opSorted (C.var 2))
theorem zz_next_forms (k : Nat) : evZ 60 (ctOf (GsO ov defs blt (k + 1)) blt d_next_forms) d_next_forms.body = z_next_forms k := by kernel_rfl
def l_behind_by_1 (k : Nat) : EV := C.lc [1] (C.range1 (C.lenOwn 0)) (C.tgName 1) (C.cmp (cmpOp .Eq) (C.subOwn 0 (C.var 1)) (C.const (.str "1"))) (C.bin opCount (C.sl (C.var 0) C.noPart (C.part (C.var 1))) (C.const (.str "2")))
def z_behind_by (k : Nat) : ZV :=
  S.ret (l_behind_by_1 k)
theorem zz_behind_by (k : Nat) : evZ 60 (ctOf (GsO ov defs blt (k + 1)) blt d_behind_by) d_behind_by.body = z_behind_by k := by kernel_rfl
def b_word_by_1 (k : Nat) : ZV :=
  S.par 2 3 true false (C.bin (binOp .Add) (C.bin (binOp .Add) (C.var 2) (C.bin (binOp .Mult) (C.const (.str "2")) (C.bin (binOp .Sub) (C.var 4) (C.var 3)))) (C.const (.str "1"))) (C.var 4)
def z_word_by (k : Nat) : ZV :=
  S.seq (S.par 2 3 false false (C.const (.str "")) (C.const (.int 0))) <|
  S.seq (S.for_ (C.iter (C.var 0)) (C.tgName 4) (b_word_by_1 k)) <|
  S.ret (C.bin (binOp .Add) (C.var 2) (C.bin (binOp .Mult) (C.const (.str "2")) (C.bin (binOp .Sub) (C.var 1) (C.var 3))))
theorem zz_word_by (k : Nat) : evZ 60 (ctOf (GsO ov defs blt (k + 1)) blt d_word_by) d_word_by.body = z_word_by k := by kernel_rfl
def l_check_kinds_1 (k : Nat) : EV := C.lc [2] (C.iter (C.call (I_tupled k) (C.cons (C.var 3) C.nil))) (C.tgName 2) C.yes (C.sl (C.var 2) C.noPart (C.part (C.const (.int 3))))
def l_check_kinds_2 (k : Nat) : EV := C.lc [3] (C.iter (C.var 0)) (C.tgName 3) C.yes (C.un1 opTuple (l_check_kinds_1 k))
def l_check_kinds_3 (k : Nat) : EV := C.lc [4] (C.iter (C.var 1)) (C.tgName 4) C.yes (C.ofT (C.cmp (cmpOp .NotEq) (C.var 4) (C.subOwn 1 (C.const (.int 0)))))
def z_check_kinds (k : Nat) : ZV :=
  S.seq (S.asg 1 true (l_check_kinds_2 k)) <|
  S.ite (C.test (C.un1 opAny (l_check_kinds_3 k))) C.fail S.skip
theorem zz_check_kinds (k : Nat) : evZ 60 (ctOf (GsO ov defs blt (k + 1)) blt d_check_kinds) d_check_kinds.body = z_check_kinds k := by kernel_rfl
def l_passings_1 (k : Nat) : EV := C.lc [5, 6] (C.zip2 (C.call (I_behind_by k) (C.cons (C.subOwn 3 (C.const (.int 3))) C.nil)) (C.call (I_behind_by k) (C.cons (C.subOwn 4 (C.const (.int 3))) C.nil))) (C.tgTup (C.tgCons (C.tgName 5) (C.tgCons (C.tgName 6) C.tgNil))) C.yes (C.un1 opAbs (C.bin (binOp .Sub) (C.var 5) (C.var 6)))
def b_passings_1 (k : Nat) : ZV :=
  S.aug 2 augF (C.un1 opSum (l_passings_1 k))
def z_passings (k : Nat) : ZV :=
  S.seq (S.drop (C.callS (I_check_kinds k) (C.cons (C.var 0) (C.cons (C.var 1) C.nil)))) <|
  S.seq (S.asg 2 false (C.const (.int 0))) <|
  S.seq (S.for_ (C.zip2 (C.var 0) (C.var 1)) (C.tgTup (C.tgCons (C.tgName 3) (C.tgCons (C.tgName 4) C.tgNil))) (b_passings_1 k)) <|
  S.ret (C.var 2)
theorem zz_passings (k : Nat) : evZ 60 (ctOf (GsO ov defs blt (k + 1)) blt d_passings) d_passings.body = z_passings k := by kernel_rfl
def l_a_course_1 (k : Nat) : EV := C.lc [5] (C.iter (C.call (I_next_forms k) (C.cons (C.subOwn 2 (C.un1 opNeg (C.const (.int 1)))) C.nil))) (C.tgName 5) (C.cmp (cmpOp .Lt) (C.call (I_passings k) (C.cons (C.var 5) (C.cons (C.var 3) C.nil))) (C.var 4)) (C.var 5)
def b_a_course_1 (k : Nat) : ZV :=
  S.seq (S.asg 4 false (C.call (I_passings k) (C.cons (C.subOwn 2 (C.un1 opNeg (C.const (.int 1)))) (C.cons (C.var 3) C.nil)))) <|
  S.append 2 (C.bin item (l_a_course_1 k) (C.const (.int 0)))
def z_a_course (k : Nat) : ZV :=
  S.seq (S.drop (C.callS (I_check_kinds k) (C.cons (C.var 0) (C.cons (C.var 1) C.nil)))) <|
  S.seq (S.par 2 3 true false (C.lst (C.cons (C.call (I_tupled k) (C.cons (C.var 0) C.nil)) C.nil)) (C.call (I_tupled k) (C.cons (C.var 1) C.nil))) <|
  S.seq (S.while_ (C.cmp (cmpOp .NotEq) (C.subOwn 2 (C.un1 opNeg (C.const (.int 1)))) (C.var 3)) (b_a_course_1 k)) <|
  S.ret (C.un1 opTuple (C.var 2))
theorem zz_a_course (k : Nat) : evZ 60 (ctOf (GsO ov defs blt (k + 1)) blt d_a_course) d_a_course.body = z_a_course k := by kernel_rfl
def b_is_course_1 (k : Nat) : ZV :=
  S.ite (C.cmp (cmpOp .NotIn) (C.var 4) (C.call (I_next_forms k) (C.cons (C.var 3) C.nil))) (S.ret (C.const (.bool false))) S.skip
def z_is_course (k : Nat) : ZV :=
  S.seq (S.drop (C.callS (I_check_kinds k) (C.cons (C.var 0) (C.cons (C.var 1) C.nil)))) <|
  S.seq (S.ite (C.or (C.not (C.test (C.un1 (fun d => some (.bool (isTys [.tuple] d))) (C.var 2)))) (C.or (C.cmp (cmpOp .Eq) (C.lenOwn 2) (C.const (.int 0))) (C.or (C.cmp (cmpOp .NotEq) (C.subOwn 2 (C.const (.int 0))) (C.call (I_tupled k) (C.cons (C.var 0) C.nil))) (C.cmp (cmpOp .NotEq) (C.subOwn 2 (C.un1 opNeg (C.const (.int 1)))) (C.call (I_tupled k) (C.cons (C.var 1) C.nil)))))) (S.ret (C.const (.bool false))) S.skip) <|
  S.seq (S.for_ (C.zip2 (C.var 2) (C.sl (C.var 2) (C.part (C.const (.int 1))) C.noPart)) (C.tgTup (C.tgCons (C.tgName 3) (C.tgCons (C.tgName 4) C.tgNil))) (b_is_course_1 k)) <|
  S.ret (C.const (.bool true))
theorem zz_is_course (k : Nat) : evZ 60 (ctOf (GsO ov defs blt (k + 1)) blt d_is_course) d_is_course.body = z_is_course k := by kernel_rfl
def z_between (k : Nat) : ZV :=
  S.seq (S.drop (C.callS (I_check_kinds k) (C.cons (C.var 0) (C.cons (C.var 1) (C.cons (C.var 2) C.nil))))) <|
  S.ret (C.ofT (C.cmp (cmpOp .Eq) (C.bin (binOp .Add) (C.call (I_passings k) (C.cons (C.var 0) (C.cons (C.var 2) C.nil))) (C.call (I_passings k) (C.cons (C.var 2) (C.cons (C.var 1) C.nil)))) (C.call (I_passings k) (C.cons (C.var 0) (C.cons (C.var 1) C.nil)))))
theorem zz_between (k : Nat) : evZ 60 (ctOf (GsO ov defs blt (k + 1)) blt d_between) d_between.body = z_between k := by kernel_rfl
def l_middle_1 (k : Nat) : EV := C.lc [6] (C.iter (C.var 4)) (C.tgName 6) C.yes (C.call (I_behind_by k) (C.cons (C.subOwn 6 (C.const (.int 3))) C.nil))
def l_middle_2 (k : Nat) : EV := C.lc [8] (C.zip3 (C.subOwn 5 (C.const (.int 0))) (C.subOwn 5 (C.const (.int 1))) (C.subOwn 5 (C.const (.int 2)))) (C.tgName 8) C.yes (C.bin item (C.un1 opSorted (C.var 8)) (C.const (.int 1)))
def b_middle_1 (k : Nat) : ZV :=
  S.seq (S.asg 5 true (l_middle_1 k)) <|
  S.seq (S.asg 7 true (l_middle_2 k)) <|
  S.append 3 (C.tup (C.star (C.sl (C.subOwn 4 (C.const (.int 0))) C.noPart (C.part (C.const (.int 3)))) (C.cons (C.call (I_word_by k) (C.cons (C.var 7) (C.cons (C.bin (binOp .Sub) (C.un1 opLen (C.bin item (C.subOwn 4 (C.const (.int 0))) (C.const (.int 2)))) (C.const (.int 1))) C.nil))) C.nil)))
def z_middle (k : Nat) : ZV :=
  S.seq (S.drop (C.callS (I_check_kinds k) (C.cons (C.var 0) (C.cons (C.var 1) (C.cons (C.var 2) C.nil))))) <|
  S.seq (S.asg 3 true (C.lst C.nil)) <|
  S.seq (S.for_ (C.zip3 (C.call (I_tupled k) (C.cons (C.var 0) C.nil)) (C.call (I_tupled k) (C.cons (C.var 1) C.nil)) (C.call (I_tupled k) (C.cons (C.var 2) C.nil))) (C.tgName 4) (b_middle_1 k)) <|
  S.ret (C.un1 opTuple (C.var 3))
theorem zz_middle (k : Nat) : evZ 60 (ctOf (GsO ov defs blt (k + 1)) blt d_middle) d_middle.body = z_middle k := by kernel_rfl
def z_law_box (k : Nat) : ZV :=
  S.seq (S.asg 2 false (C.ifx (C.cmp (cmpOp .Lt) (C.var 1) (C.lenOwn 0)) (C.subOwn 0 (C.var 1)) (C.const (.int 0)))) <|
  S.ret (C.lst (C.cons (C.bin (binOp .Mult) (C.un1 opAbs (C.var 2)) (C.un1 opInt (C.ofT (C.cmp (cmpOp .GtE) (C.un1 opAbs (C.var 2)) (C.bin (binOp .Pow) (C.const (.int 10)) (C.const (.int 18))))))) (C.cons (C.bin (binOp .Add) (C.bin (binOp .Add) (C.bin (binOp .Mod) (C.un1 opInt (C.var 2)) (C.const (.int 2305843009213693951))) (C.bin (binOp .Mult) (C.const (.int 39373)) (C.var 1))) (C.const (.int 2809))) (C.cons (C.const (.int 0)) C.nil))))
theorem zz_law_box (k : Nat) : evZ 60 (ctOf (GsO ov defs blt (k + 1)) blt d_law_box) d_law_box.body = z_law_box k := by kernel_rfl
def z_law_take (k : Nat) : ZV :=
  S.seq (S.ite (C.cmp (cmpOp .Gt) (C.subOwn 0 (C.const (.int 0))) (C.const (.int 0))) (S.seq (S.asg 2 false (C.bin (binOp .Mod) (C.un1 opInt (C.subOwn 0 (C.const (.int 0)))) (C.var 1))) <|
  S.seq (S.setItem 0 (C.const (.int 0)) (C.bin (binOp .FloorDiv) (C.subOwn 0 (C.const (.int 0))) (C.var 1))) <|
  S.ret (C.var 2)) S.skip) <|
  S.seq (S.setItem 0 (C.const (.int 2)) (C.bin (binOp .Add) (C.subOwn 0 (C.const (.int 2))) (C.const (.int 1)))) <|
  S.seq (S.asg 3 false (C.bin (binOp .Mod) (C.un1 opInt (C.bin (binOp .Mult) (C.bin (binOp .Add) (C.subOwn 0 (C.const (.int 1))) (C.bin (binOp .Mult) (C.const (.int 48271)) (C.subOwn 0 (C.const (.int 2))))) (C.bin (binOp .Add) (C.const (.int 39373)) (C.subOwn 0 (C.const (.int 2)))))) (C.const (.int 2147483647)))) <|
  S.seq (S.asg 4 true (C.bin (binOp .Add) (C.bin (binOp .Mod) (C.un1 opInt (C.var 3)) (C.const (.int 40009))) (C.const (.int 7)))) <|
  S.seq (S.asg 5 false (C.bin (binOp .Mod) (C.un1 opInt (C.bin (binOp .Mult) (C.bin (binOp .Add) (C.bin (binOp .Add) (C.var 3) (C.subOwn 0 (C.const (.int 2)))) (C.bin (binOp .FloorDiv) (C.subOwn 0 (C.const (.int 1))) (C.const (.int 1000003)))) (C.var 4))) (C.const (.int 2147483629)))) <|
  S.ret (C.bin (binOp .Mod) (C.un1 opInt (C.bin (binOp .FloorDiv) (C.bin (binOp .Mod) (C.un1 opInt (C.bin (binOp .Add) (C.bin (binOp .Mult) (C.var 5) (C.const (.int 48271))) (C.var 3))) (C.const (.int 2147483587))) (C.const (.int 64)))) (C.var 1))
theorem zz_law_take (k : Nat) : evZ 60 (ctOf (GsO ov defs blt (k + 1)) blt d_law_take) d_law_take.body = z_law_take k := by kernel_rfl
def b_law_cells_1 (k : Nat) : ZV :=
  S.seq (S.asg 5 false (C.bin (binOp .Mod) (C.un1 opInt (C.var 3)) (C.var 1))) <|
  S.setItem 2 (C.var 5) (C.bin (binOp .Add) (C.subOwn 2 (C.var 5)) (C.bin (binOp .Mult) (C.var 4) (C.bin (binOp .Add) (C.var 3) (C.const (.int 2)))))
def z_law_cells (k : Nat) : ZV :=
  S.seq (S.asg 2 true (C.orV (C.un1 opList (C.sl (C.var 0) C.noPart (C.part (C.var 1)))) (C.lst (C.cons (C.const (.int 0)) C.nil)))) <|
  S.seq (S.for_ (C.enum (C.sl (C.var 0) (C.part (C.var 1)) (C.part (C.const (.int 63))))) (C.tgTup (C.tgCons (C.tgName 3) (C.tgCons (C.tgName 4) C.tgNil))) (b_law_cells_1 k)) <|
  S.ret (C.var 2)
theorem zz_law_cells (k : Nat) : evZ 60 (ctOf (GsO ov defs blt (k + 1)) blt d_law_cells) d_law_cells.body = z_law_cells k := by kernel_rfl
def z_law_of (k : Nat) : ZV :=
  S.ret (C.subOwn 1 (C.callO (I_law_take k) 0 (C.cons (C.lenOwn 1) C.nil)))
theorem zz_law_of (k : Nat) : evZ 60 (ctOf (GsO ov defs blt (k + 1)) blt d_law_of) d_law_of.body = z_law_of k := by kernel_rfl
def b_law_pick_1 (k : Nat) : ZV :=
  S.append 4 (C.popOwn 3 (C.callO (I_law_take k) 0 (C.cons (C.lenOwn 3) C.nil)))
def z_law_pick (k : Nat) : ZV :=
  S.seq (S.par 3 4 true true (C.un1 opList (C.var 1)) (C.lst C.nil)) <|
  S.seq (S.for_ (C.range1 (C.bin opMin2 (C.var 2) (C.lenOwn 3))) (C.tgName 5) (b_law_pick_1 k)) <|
  S.ret (C.var 4)
theorem zz_law_pick (k : Nat) : evZ 60 (ctOf (GsO ov defs blt (k + 1)) blt d_law_pick) d_law_pick.body = z_law_pick k := by kernel_rfl
def l_law_lists_1 (k : Nat) : EV := C.lc [1] (C.iter (C.var 0)) (C.tgName 1) C.yes (C.call (I_law_lists k) (C.cons (C.var 1) C.nil))
def z_law_lists (k : Nat) : ZV :=
  S.ret (C.ifx (C.test (C.un1 (fun d => some (.bool (isTys [.list, .tuple] d))) (C.var 0))) (l_law_lists_1 k) (C.var 0))
theorem zz_law_lists (k : Nat) : evZ 60 (ctOf (GsO ov defs blt (k + 1)) blt d_law_lists) d_law_lists.body = z_law_lists k := by kernel_rfl
def l_law_same_1 (k : Nat) : EV := C.lc [2, 3] (C.zip2 (C.var 0) (C.var 1)) (C.tgTup (C.tgCons (C.tgName 2) (C.tgCons (C.tgName 3) C.tgNil))) C.yes (C.call (I_law_same k) (C.cons (C.var 2) (C.cons (C.var 3) C.nil)))
def l_law_same_2 (k : Nat) : EV := C.lc [4] (C.iter (C.var 1)) (C.tgName 4) C.yes (C.call (I_law_same k) (C.cons (C.subOwn 0 (C.var 4)) (C.cons (C.subOwn 1 (C.var 4)) C.nil)))
def z_law_same (k : Nat) : ZV :=
  S.seq (S.ite (C.test (C.un1 (fun d => some (.bool (isTys [.list, .tuple] d))) (C.var 1))) (S.seq (S.ite (C.or (C.cmp (cmpOp .NotEq) (C.un1 (fun d => some (.bool (isTys [.list] d))) (C.var 0)) (C.un1 (fun d => some (.bool (isTys [.list] d))) (C.var 1))) (C.cmp (cmpOp .NotEq) (C.un1 (fun d => some (.bool (isTys [.tuple] d))) (C.var 0)) (C.un1 (fun d => some (.bool (isTys [.tuple] d))) (C.var 1)))) (S.ret (C.const (.bool false))) S.skip) <|
  S.ret (C.andV (C.ofT (C.cmp (cmpOp .Eq) (C.lenOwn 0) (C.lenOwn 1))) (C.un1 opAll (l_law_same_1 k)))) S.skip) <|
  S.seq (S.ite (C.test (C.un1 (fun d => some (.bool (isTys [.dict] d))) (C.var 1))) (S.seq (S.ite (C.or (C.not (C.test (C.un1 (fun d => some (.bool (isTys [.dict] d))) (C.var 0)))) (C.cmp (cmpOp .NotEq) (C.un1 opSorted (C.var 0)) (C.un1 opSorted (C.var 1)))) (S.ret (C.const (.bool false))) S.skip) <|
  S.ret (C.un1 opAll (l_law_same_2 k))) S.skip) <|
  S.seq (S.ite (C.or (C.cmp (cmpOp .Is) (C.var 1) (C.const .none)) (C.test (C.un1 (fun d => some (.bool (isTys [.bool, .str] d))) (C.var 1)))) (S.ret (C.andV (C.ofT (C.cmp (cmpOp .Eq) (C.var 0) (C.var 1))) (C.andV (C.ofT (C.cmp (cmpOp .Eq) (C.un1 (fun d => some (.bool (isTys [.bool] d))) (C.var 0)) (C.un1 (fun d => some (.bool (isTys [.bool] d))) (C.var 1)))) (C.ofT (C.cmp (cmpOp .Eq) (C.ofT (C.cmp (cmpOp .Is) (C.var 0) (C.const .none))) (C.ofT (C.cmp (cmpOp .Is) (C.var 1) (C.const .none)))))))) S.skip) <|
  S.ret (C.andV (C.un1 (fun d => some (.bool (isTys [.int] d))) (C.var 0)) (C.andV (C.ofT (C.not (C.test (C.un1 (fun d => some (.bool (isTys [.bool] d))) (C.var 0))))) (C.ofT (C.cmp (cmpOp .Eq) (C.var 0) (C.var 1)))))
theorem zz_law_same (k : Nat) : evZ 60 (ctOf (GsO ov defs blt (k + 1)) blt d_law_same) d_law_same.body = z_law_same k := by kernel_rfl
def b_law_split_1 (k : Nat) : ZV :=
  S.ite (C.cmp (cmpOp .NotEq) (C.subOwn 6 (C.const (.int 0))) (C.var 1)) (S.append 5 (C.var 6)) (S.ite (C.cmp (cmpOp .Eq) (C.var 2) (C.const (.str "level"))) (S.asg 5 true (C.bin (binOp .Add) (C.var 5) (C.lst (C.cons (C.bin (binOp .Add) (C.sl (C.var 6) C.noPart (C.part (C.const (.int 4)))) (C.tup (C.cons (C.var 3) C.nil))) (C.cons (C.bin (binOp .Add) (C.tup (C.cons (C.var 4) (C.cons (C.subOwn 6 (C.const (.int 1))) (C.cons (C.var 3) C.nil)))) (C.sl (C.var 6) (C.part (C.const (.int 3))) C.noPart)) C.nil))))) (S.asg 5 true (C.bin (binOp .Add) (C.var 5) (C.lst (C.cons (C.bin (binOp .Add) (C.bin (binOp .Add) (C.sl (C.var 6) C.noPart (C.part (C.const (.int 3)))) (C.tup (C.cons (C.var 3) C.nil))) (C.sl (C.var 6) (C.part (C.const (.int 4))) C.noPart)) (C.cons (C.bin (binOp .Add) (C.tup (C.cons (C.var 4) (C.cons (C.var 3) C.nil))) (C.sl (C.var 6) (C.part (C.const (.int 2))) C.noPart)) C.nil))))))
def z_law_split (k : Nat) : ZV :=
  S.seq (S.asg 5 true (C.lst C.nil)) <|
  S.seq (S.for_ (C.iter (C.var 0)) (C.tgName 6) (b_law_split_1 k)) <|
  S.ret (C.un1 opTuple (C.un1 opSorted (C.var 5)))
theorem zz_law_split (k : Nat) : evZ 60 (ctOf (GsO ov defs blt (k + 1)) blt d_law_split) d_law_split.body = z_law_split k := by kernel_rfl
def b_law_no_cross_1 (k : Nat) : ZV :=
  S.asg 1 true (C.bin (binOp .Add) (C.var 1) (C.lst (C.cons (C.tup (C.cons (C.subOwn 2 (C.const (.int 1))) (C.cons (C.subOwn 2 (C.const (.int 2))) C.nil))) (C.cons (C.tup (C.cons (C.subOwn 2 (C.const (.int 3))) (C.cons (C.subOwn 2 (C.const (.int 2))) C.nil))) (C.cons (C.tup (C.cons (C.subOwn 2 (C.const (.int 1))) (C.cons (C.subOwn 2 (C.const (.int 4))) C.nil))) (C.cons (C.tup (C.cons (C.subOwn 2 (C.const (.int 3))) (C.cons (C.subOwn 2 (C.const (.int 4))) C.nil))) C.nil))))))
def l_law_no_cross_1 (k : Nat) : EV := C.lc [2] (C.iter (C.var 1)) (C.tgName 2) (C.cmp (cmpOp .Gt) (C.bin opCount (C.var 1) (C.var 2)) (C.const (.int 3))) (C.var 2)
def z_law_no_cross (k : Nat) : ZV :=
  S.seq (S.asg 1 true (C.lst C.nil)) <|
  S.seq (S.for_ (C.iter (C.var 0)) (C.tgName 2) (b_law_no_cross_1 k)) <|
  S.ret (C.ofT (C.cmp (cmpOp .Eq) (l_law_no_cross_1 k) (C.lst C.nil)))
theorem zz_law_no_cross (k : Nat) : evZ 60 (ctOf (GsO ov defs blt (k + 1)) blt d_law_no_cross) d_law_no_cross.body = z_law_no_cross k := by kernel_rfl
def l_law_flat_1 (k : Nat) : EV := C.lc [12] (C.iter (C.var 4)) (C.tgName 12) C.yes (C.subOwn 12 (C.const (.int 0)))
def b_law_flat_1 (k : Nat) : ZV :=
  S.seq (S.par 8 9 false false (C.callO (I_law_of k) 0 (C.cons (C.var 4) C.nil)) (C.callO (I_law_of k) 0 (C.cons (C.lst (C.cons (C.const (.str "level")) (C.cons (C.const (.str "upright")) C.nil))) C.nil))) <|
  S.seq (S.asgG (C.tgTup (C.tgCons (C.tgName 10) (C.tgCons (C.tgName 11) C.tgNil))) (C.ifx (C.cmp (cmpOp .Eq) (C.var 9) (C.const (.str "level"))) (C.tup (C.cons (C.subOwn 8 (C.const (.int 2))) (C.cons (C.subOwn 8 (C.const (.int 4))) C.nil))) (C.tup (C.cons (C.subOwn 8 (C.const (.int 1))) (C.cons (C.subOwn 8 (C.const (.int 3))) C.nil))))) <|
  S.ite (C.and (C.cmp (cmpOp .Gt) (C.bin (binOp .Sub) (C.var 11) (C.var 10)) (C.const (.int 1))) (C.cmp (cmpOp .NotIn) (C.var 6) (l_law_flat_1 k))) (S.seq (S.asg 13 false (C.call (I_law_split k) (C.cons (C.var 4) (C.cons (C.subOwn 8 (C.const (.int 0))) (C.cons (C.var 9) (C.cons (C.bin (binOp .Add) (C.bin (binOp .Add) (C.var 10) (C.const (.int 1))) (C.callO (I_law_take k) 0 (C.cons (C.bin (binOp .Sub) (C.bin (binOp .Sub) (C.var 11) (C.var 10)) (C.const (.int 1))) C.nil))) (C.cons (C.var 6) C.nil))))))) <|
  S.asg 4 false (C.ifx (C.test (C.call (I_law_no_cross k) (C.cons (C.var 13) C.nil))) (C.var 13) (C.var 4))) S.skip
def b_law_flat_2 (k : Nat) : ZV :=
  S.for_ (C.range1 (C.const (.int 6))) (C.tgName 7) (b_law_flat_1 k)
def z_law_flat (k : Nat) : ZV :=
  S.seq (S.asg 3 false (C.callO (I_law_pick k) 0 (C.cons (C.lst (C.cons (C.const (.str "a")) (C.cons (C.const (.str "b")) (C.cons (C.const (.str "c")) (C.cons (C.const (.str "d")) (C.cons (C.const (.str "e")) (C.cons (C.const (.str "f")) (C.cons (C.const (.str "g")) (C.cons (C.const (.str "h")) (C.cons (C.const (.str "x")) (C.cons (C.const (.str "yy")) (C.cons (C.const (.str "abcdefgh")) C.nil)))))))))))) (C.cons (C.bin (binOp .Add) (C.const (.int 1)) (C.callO (I_law_take k) 0 (C.cons (C.var 1) C.nil))) C.nil)))) <|
  S.seq (S.asg 4 false (C.tup (C.cons (C.tup (C.cons (C.subOwn 3 (C.const (.int 0))) (C.cons (C.const (.int 0)) (C.cons (C.const (.int 0)) (C.cons (C.bin (binOp .Mult) (C.const (.int 4)) (C.var 2)) (C.cons (C.bin (binOp .Mult) (C.const (.int 4)) (C.var 2)) C.nil)))))) C.nil))) <|
  S.seq (S.ite (C.and (C.cmp (cmpOp .Gt) (C.lenOwn 3) (C.const (.int 4))) (C.cmp (cmpOp .Eq) (C.callO (I_law_take k) 0 (C.cons (C.const (.int 3)) C.nil)) (C.const (.int 0)))) (S.seq (S.asg 5 false (C.var 2)) <|
  S.seq (S.asg 4 false (C.tup (C.cons (C.tup (C.cons (C.subOwn 3 (C.const (.int 0))) (C.cons (C.const (.int 0)) (C.cons (C.const (.int 0)) (C.cons (C.bin (binOp .Mult) (C.const (.int 3)) (C.var 5)) (C.cons (C.var 5) C.nil)))))) (C.cons (C.tup (C.cons (C.subOwn 3 (C.const (.int 1))) (C.cons (C.bin (binOp .Mult) (C.const (.int 3)) (C.var 5)) (C.cons (C.const (.int 0)) (C.cons (C.bin (binOp .Mult) (C.const (.int 4)) (C.var 5)) (C.cons (C.bin (binOp .Mult) (C.const (.int 3)) (C.var 5)) C.nil)))))) (C.cons (C.tup (C.cons (C.subOwn 3 (C.const (.int 2))) (C.cons (C.var 5) (C.cons (C.bin (binOp .Mult) (C.const (.int 3)) (C.var 5)) (C.cons (C.bin (binOp .Mult) (C.const (.int 4)) (C.var 5)) (C.cons (C.bin (binOp .Mult) (C.const (.int 4)) (C.var 5)) C.nil)))))) C.nil))))) <|
  S.asg 4 false (C.un1 opTuple (C.un1 opSorted (C.bin (binOp .Add) (C.var 4) (C.tup (C.cons (C.tup (C.cons (C.subOwn 3 (C.const (.int 3))) (C.cons (C.const (.int 0)) (C.cons (C.var 5) (C.cons (C.var 5) (C.cons (C.bin (binOp .Mult) (C.const (.int 4)) (C.var 5)) C.nil)))))) (C.cons (C.tup (C.cons (C.subOwn 3 (C.const (.int 4))) (C.cons (C.var 5) (C.cons (C.var 5) (C.cons (C.bin (binOp .Mult) (C.const (.int 3)) (C.var 5)) (C.cons (C.bin (binOp .Mult) (C.const (.int 3)) (C.var 5)) C.nil)))))) C.nil))))))) S.skip) <|
  S.seq (S.for_ (C.iter (C.sl (C.var 3) (C.part (C.lenOwn 4)) C.noPart)) (C.tgName 6) (b_law_flat_2 k)) <|
  S.ret (C.var 4)
theorem zz_law_flat (k : Nat) : evZ 60 (ctOf (GsO ov defs blt (k + 1)) blt d_law_flat) d_law_flat.body = z_law_flat k := by kernel_rfl
def l_law_seams_1 (k : Nat) : EV := C.lc [3] (C.iter (C.var 0)) (C.tgName 3) C.yes (C.subOwn 3 (C.const (.int 2)))
def l_law_seams_2 (k : Nat) : EV := C.lc [3] (C.iter (C.var 0)) (C.tgName 3) C.yes (C.subOwn 3 (C.const (.int 1)))
def l_law_seams_3 (k : Nat) : EV := C.lc [3] (C.iter (C.var 0)) (C.tgName 3) (C.cmp (cmpOp .Gt) (C.subOwn 3 (C.var 5)) (C.subOwn 2 (C.bin (binOp .Sub) (C.var 5) (C.const (.int 1))))) (C.subOwn 3 (C.var 5))
def l_law_seams_4 (k : Nat) : EV := C.lc [3] (C.iter (C.var 0)) (C.tgName 3) (C.cmp (cmpOp .Eq) (C.subOwn 3 (C.var 5)) (C.var 6)) (C.tup (C.cons (C.subOwn 3 (C.bin (binOp .Sub) (C.const (.int 3)) (C.var 5))) (C.cons (C.subOwn 3 (C.bin (binOp .Sub) (C.const (.int 5)) (C.var 5))) C.nil)))
def b_law_seams_1 (k : Nat) : ZV :=
  S.ite (C.cmp (cmpOp .Eq) (C.subOwn 3 (C.const (.int 0))) (C.subOwn 8 (C.const (.int 1)))) (S.asg 8 false (C.tup (C.cons (C.subOwn 8 (C.const (.int 0))) (C.cons (C.subOwn 3 (C.const (.int 1))) C.nil)))) (S.seq (S.append 1 (C.bin (binOp .Add) (C.tup (C.cons (C.var 4) (C.cons (C.var 6) C.nil))) (C.var 8))) <|
  S.asg 8 false (C.var 3))
def b_law_seams_2 (k : Nat) : ZV :=
  S.seq (S.asg 7 true (C.un1 opSorted (l_law_seams_4 k))) <|
  S.seq (S.asg 8 false (C.subOwn 7 (C.const (.int 0)))) <|
  S.seq (S.for_ (C.iter (C.sl (C.var 7) (C.part (C.const (.int 1))) C.noPart)) (C.tgName 3) (b_law_seams_1 k)) <|
  S.append 1 (C.bin (binOp .Add) (C.tup (C.cons (C.var 4) (C.cons (C.var 6) C.nil))) (C.var 8))
def b_law_seams_3 (k : Nat) : ZV :=
  S.for_ (C.iter (C.un1 opSortedSet (l_law_seams_3 k))) (C.tgName 6) (b_law_seams_2 k)
def z_law_seams (k : Nat) : ZV :=
  S.seq (S.par 1 2 true true (C.lst C.nil) (C.lst (C.cons (C.un1 opMin (l_law_seams_2 k)) (C.cons (C.un1 opMin (l_law_seams_1 k)) C.nil)))) <|
  S.seq (S.for_ (C.iter (C.tup (C.cons (C.tup (C.cons (C.const (.str "level")) (C.cons (C.const (.int 2)) C.nil))) (C.cons (C.tup (C.cons (C.const (.str "upright")) (C.cons (C.const (.int 1)) C.nil))) C.nil)))) (C.tgTup (C.tgCons (C.tgName 4) (C.tgCons (C.tgName 5) C.tgNil))) (b_law_seams_3 k)) <|
  S.ret (C.un1 opSorted (C.var 1))
theorem zz_law_seams (k : Nat) : evZ 60 (ctOf (GsO ov defs blt (k + 1)) blt d_law_seams) d_law_seams.body = z_law_seams k := by kernel_rfl
def l_law_rows_1 (k : Nat) : EV := C.lc [8] (C.iter (C.var 0)) (C.tgName 8) (C.chain (cmpOp .LtE) (cmpOp .Lt) (C.var 4) (C.subOwn 8 (C.bin (binOp .Sub) (C.const (.int 3)) (C.var 6))) (C.var 5)) (C.var 8)
def l_law_rows_2 (k : Nat) : EV := C.lc [8] (C.iter (C.var 7)) (C.tgName 8) (C.cmp (cmpOp .Eq) (C.subOwn 8 (C.bin (binOp .Add) (C.var 6) (C.const (.int 2)))) (C.var 3)) (C.tup (C.cons (C.subOwn 8 (C.bin (binOp .Sub) (C.const (.int 3)) (C.var 6))) (C.cons (C.subOwn 8 (C.const (.int 0))) C.nil)))
def l_law_rows_3 (k : Nat) : EV := C.lc [8] (C.iter (C.var 7)) (C.tgName 8) (C.cmp (cmpOp .Eq) (C.subOwn 8 (C.var 6)) (C.var 3)) (C.tup (C.cons (C.subOwn 8 (C.bin (binOp .Sub) (C.const (.int 3)) (C.var 6))) (C.cons (C.subOwn 8 (C.const (.int 0))) C.nil)))
def l_law_rows_4 (k : Nat) : EV := C.lc [8] (C.iter (C.var 10)) (C.tgName 8) C.yes (C.subOwn 8 (C.const (.int 1)))
def l_law_rows_5 (k : Nat) : EV := C.lc [8] (C.iter (C.var 9)) (C.tgName 8) C.yes (C.subOwn 8 (C.const (.int 1)))
def z_law_rows (k : Nat) : ZV :=
  S.seq (S.asgG (C.tgTup (C.tgCons (C.tgName 2) (C.tgCons (C.tgName 3) (C.tgCons (C.tgName 4) (C.tgCons (C.tgName 5) C.tgNil))))) (C.var 1)) <|
  S.seq (S.asg 6 false (C.ifx (C.cmp (cmpOp .Eq) (C.var 2) (C.const (.str "level"))) (C.const (.int 2)) (C.const (.int 1)))) <|
  S.seq (S.asg 7 true (l_law_rows_1 k)) <|
  S.seq (S.asg 9 true (C.un1 opSorted (l_law_rows_2 k))) <|
  S.seq (S.asg 10 true (C.un1 opSorted (l_law_rows_3 k))) <|
  S.ret (C.tup (C.cons (C.un1 opTuple (l_law_rows_5 k)) (C.cons (C.un1 opTuple (l_law_rows_4 k)) C.nil)))
theorem zz_law_rows (k : Nat) : evZ 60 (ctOf (GsO ov defs blt (k + 1)) blt d_law_rows) d_law_rows.body = z_law_rows k := by kernel_rfl
def l_law_word_1 (k : Nat) : EV := C.lc [7] (C.iter (C.var 0)) (C.tgName 7) (C.cmp (cmpOp .Eq) (C.subOwn 7 (C.const (.int 0))) (C.var 6)) (C.var 7)
def b_law_word_1 (k : Nat) : ZV :=
  S.append 3 (C.tup (C.cons (C.bin item (C.bin item (l_law_word_1 k) (C.const (.int 0))) (C.var 2)) (C.cons (C.var 4) C.nil)))
def b_law_word_2 (k : Nat) : ZV :=
  S.for_ (C.iter (C.sl (C.var 5) C.noPart (C.part (C.un1 opNeg (C.const (.int 1)))))) (C.tgName 6) (b_law_word_1 k)
def l_law_word_2 (k : Nat) : EV := C.lc [8] (C.iter (C.un1 opSorted (C.var 3))) (C.tgName 8) C.yes (C.subOwn 8 (C.const (.int 1)))
def z_law_word (k : Nat) : ZV :=
  S.seq (S.par 2 3 false true (C.ifx (C.cmp (cmpOp .Eq) (C.subOwn 1 (C.const (.int 0))) (C.const (.str "level"))) (C.const (.int 3)) (C.const (.int 4))) (C.lst C.nil)) <|
  S.seq (S.for_ (C.zip2 (C.tup (C.cons (C.const (.str "1")) (C.cons (C.const (.str "2")) C.nil))) (C.call (I_law_rows k) (C.cons (C.var 0) (C.cons (C.var 1) C.nil)))) (C.tgTup (C.tgCons (C.tgName 4) (C.tgCons (C.tgName 5) C.tgNil))) (b_law_word_2 k)) <|
  S.ret (C.bin opJoin (C.const (.str "")) (l_law_word_2 k))
theorem zz_law_word (k : Nat) : evZ 60 (ctOf (GsO ov defs blt (k + 1)) blt d_law_word) d_law_word.body = z_law_word k := by kernel_rfl
def l_law_shape_1 (k : Nat) : EV := C.lc [1] (C.iter (C.call (I_law_seams k) (C.cons (C.var 0) C.nil))) (C.tgName 1) C.yes (C.bin (binOp .Add) (C.bin (binOp .Add) (C.tup (C.cons (C.subOwn 1 (C.const (.int 0))) C.nil)) (C.call (I_law_rows k) (C.cons (C.var 0) (C.cons (C.var 1) C.nil)))) (C.tup (C.cons (C.call (I_law_word k) (C.cons (C.var 0) (C.cons (C.var 1) C.nil))) C.nil)))
def z_law_shape (k : Nat) : ZV :=
  S.ret (C.un1 opTuple (C.un1 opSorted (l_law_shape_1 k)))
theorem zz_law_shape (k : Nat) : evZ 60 (ctOf (GsO ov defs blt (k + 1)) blt d_law_shape) d_law_shape.body = z_law_shape k := by kernel_rfl
def b_law_next_1 (k : Nat) : ZV :=
  S.ite (C.cmp (cmpOp .NotEq) (C.bin item (C.subOwn 3 (C.const (.int 3))) (C.var 4)) (C.bin item (C.subOwn 3 (C.const (.int 3))) (C.bin (binOp .Add) (C.var 4) (C.const (.int 1))))) (S.seq (S.asg 5 false (C.un1 opRev (C.sl (C.subOwn 3 (C.const (.int 3))) (C.part (C.var 4)) (C.part (C.bin (binOp .Add) (C.var 4) (C.const (.int 2))))))) <|
  S.seq (S.asg 6 true (C.bin (binOp .Add) (C.bin (binOp .Add) (C.sl (C.subOwn 3 (C.const (.int 3))) C.noPart (C.part (C.var 4))) (C.var 5)) (C.sl (C.subOwn 3 (C.const (.int 3))) (C.part (C.bin (binOp .Add) (C.var 4) (C.const (.int 2)))) C.noPart))) <|
  S.append 1 (C.bin (binOp .Add) (C.bin (binOp .Add) (C.sl (C.var 0) C.noPart (C.part (C.var 2))) (C.tup (C.cons (C.bin (binOp .Add) (C.sl (C.var 3) C.noPart (C.part (C.const (.int 3)))) (C.tup (C.cons (C.var 6) C.nil))) C.nil))) (C.sl (C.var 0) (C.part (C.bin (binOp .Add) (C.var 2) (C.const (.int 1)))) C.noPart))) S.skip
def b_law_next_2 (k : Nat) : ZV :=
  S.for_ (C.range1 (C.bin (binOp .Sub) (C.un1 opLen (C.subOwn 3 (C.const (.int 3)))) (C.const (.int 1)))) (C.tgName 4) (b_law_next_1 k)
def z_law_next (k : Nat) : ZV :=
  S.seq (S.asg 1 true (C.lst C.nil)) <|
  S.seq (S.for_ (C.enum (C.var 0)) (C.tgTup (C.tgCons (C.tgName 2) (C.tgCons (C.tgName 3) C.tgNil))) (b_law_next_2 k)) <|
  S.ret (C.un1 opSorted (C.var 1))
theorem zz_law_next (k : Nat) : evZ 60 (ctOf (GsO ov defs blt (k + 1)) blt d_law_next) d_law_next.body = z_law_next k := by kernel_rfl
def b_law_steps_1 (k : Nat) : ZV :=
  S.setTab 1 (C.var 4) (C.var 3)
def b_law_steps_2 (k : Nat) : ZV :=
  S.asg 5 true (C.bin (binOp .Add) (C.var 5) (C.call (I_law_next k) (C.cons (C.var 4) C.nil)))
def l_law_steps_1 (k : Nat) : EV := C.lc [4] (C.iter (C.var 5)) (C.tgName 4) (C.inTab true 1 (C.var 4)) (C.var 4)
def b_law_steps_3 (k : Nat) : ZV :=
  S.seq (S.for_ (C.iter (C.var 2)) (C.tgName 4) (b_law_steps_1 k)) <|
  S.seq (S.par 3 5 true true (C.bin (binOp .Add) (C.var 3) (C.const (.int 1))) (C.lst C.nil)) <|
  S.seq (S.for_ (C.iter (C.var 2)) (C.tgName 4) (b_law_steps_2 k)) <|
  S.asg 2 true (C.un1 opSortedSet (l_law_steps_1 k))
def z_law_steps (k : Nat) : ZV :=
  S.seq (S.newTab 1 2 3 true false (C.lst (C.cons (C.var 0) C.nil)) (C.const (.int 0))) <|
  S.seq (S.while_ (C.cmp (cmpOp .NotEq) (C.var 2) (C.lst C.nil)) (b_law_steps_3 k)) <|
  S.retTab 1
theorem zz_law_steps (k : Nat) : evZ 60 (ctOf (GsO ov defs blt (k + 1)) blt d_law_steps) d_law_steps.body = z_law_steps k := by kernel_rfl
def l_law_by_hand_right_1 (k : Nat) : EV := C.lc [4] (C.range1 (C.const (.int 5))) (C.tgName 4) C.yes (C.call (I_law_heard k) (C.cons (C.var 4) (C.cons (C.var 0) (C.cons (C.sl (C.var 0) (C.part (C.const (.int 1))) (C.part (C.const (.int 2)))) (C.cons (C.var 0) C.nil)))))
def l_law_by_hand_right_2 (k : Nat) : EV := C.lc [4] (C.iter (C.tup (C.cons (C.const (.int 3)) (C.cons (C.const (.int 4)) (C.cons (C.const (.int 2)) C.nil))))) (C.tgName 4) C.yes (C.call (I_law_heard k) (C.cons (C.var 4) (C.cons (C.var 0) (C.cons (C.var 1) (C.cons (C.sl (C.var 0) (C.part (C.const (.int 1))) (C.part (C.const (.int 2)))) C.nil)))))
def l_law_by_hand_right_3 (k : Nat) : EV := C.lc [7] (C.iter (C.tup (C.cons (C.const (.str "ab")) (C.cons (C.const (.str "bc")) (C.cons (C.const (.str "cd")) (C.cons (C.const (.str "de")) (C.cons (C.const (.str "fg")) (C.cons (C.const (.str "gh")) (C.cons (C.const (.str "hi")) (C.cons (C.const (.str "ij")) C.nil)))))))))) (C.tgName 7) C.yes (C.tup (C.cons (C.const (.str "upright")) (C.cons (C.tup (C.cons (C.subOwn 7 (C.const (.int 0))) C.nil)) (C.cons (C.tup (C.cons (C.subOwn 7 (C.const (.int 1))) C.nil)) (C.cons (C.const (.str "")) C.nil)))))
def l_law_by_hand_right_4 (k : Nat) : EV := C.lc [9] (C.iter (C.tup (C.cons (C.const (.str "11112222")) (C.cons (C.const (.str "22221111")) (C.cons (C.const (.str "12121212")) (C.cons (C.const (.str "21212121")) C.nil)))))) (C.tgName 9) C.yes (C.bin (binOp .Add) (C.tup (C.cons (C.tup (C.cons (C.const (.str "level")) (C.cons (C.un1 opTuple (C.sl (C.var 5) C.noPart (C.part (C.const (.int 5))))) (C.cons (C.un1 opTuple (C.sl (C.var 5) (C.part (C.const (.int 5))) C.noPart)) (C.cons (C.var 9) C.nil))))) C.nil)) (C.var 6))
def z_law_by_hand_right (k : Nat) : ZV :=
  S.seq (S.asg 0 false (C.tup (C.cons (C.tup (C.cons (C.const (.str "level")) (C.cons (C.tup (C.cons (C.const (.str "a")) (C.cons (C.const (.str "b")) C.nil))) (C.cons (C.tup (C.cons (C.const (.str "c")) (C.cons (C.const (.str "d")) C.nil))) (C.cons (C.const (.str "21")) C.nil))))) (C.cons (C.tup (C.cons (C.const (.str "upright")) (C.cons (C.tup (C.cons (C.const (.str "a")) C.nil)) (C.cons (C.tup (C.cons (C.const (.str "b")) C.nil)) (C.cons (C.const (.str "")) C.nil))))) (C.cons (C.tup (C.cons (C.const (.str "upright")) (C.cons (C.tup (C.cons (C.const (.str "c")) C.nil)) (C.cons (C.tup (C.cons (C.const (.str "d")) C.nil)) (C.cons (C.const (.str "")) C.nil))))) C.nil))))) <|
  S.seq (S.asg 1 true (C.bin (binOp .Add) (C.tup (C.cons (C.tup (C.cons (C.const (.str "level")) (C.cons (C.tup (C.cons (C.const (.str "a")) (C.cons (C.const (.str "b")) C.nil))) (C.cons (C.tup (C.cons (C.const (.str "c")) (C.cons (C.const (.str "d")) C.nil))) (C.cons (C.const (.str "12")) C.nil))))) C.nil)) (C.sl (C.var 0) (C.part (C.const (.int 1))) C.noPart))) <|
  S.seq (S.asg 2 true (C.lst (C.cons (C.call (I_passings k) (C.cons (C.var 0) (C.cons (C.var 1) C.nil))) (C.cons (C.call (I_passings k) (C.cons (C.var 0) (C.cons (C.var 0) C.nil))) (C.cons (C.call (I_next_forms k) (C.cons (C.var 0) C.nil)) (C.cons (C.call (I_next_forms k) (C.cons (C.var 1) C.nil)) (C.cons (C.call (I_next_forms k) (C.cons (C.sl (C.var 0) (C.part (C.const (.int 1))) (C.part (C.const (.int 2)))) C.nil)) (C.cons (C.call (I_passings k) (C.cons (C.sl (C.var 0) (C.part (C.const (.int 1))) (C.part (C.const (.int 2)))) (C.cons (C.sl (C.var 0) (C.part (C.const (.int 1))) (C.part (C.const (.int 2)))) C.nil))) (C.cons (C.call (I_next_forms k) (C.cons (C.tup C.nil) C.nil)) C.nil))))))))) <|
  S.seq (S.asg 3 true (C.lst (C.cons (C.const (.int 1)) (C.cons (C.const (.int 0)) (C.cons (C.lst (C.cons (C.var 1) C.nil)) (C.cons (C.lst (C.cons (C.var 0) C.nil)) (C.cons (C.lst C.nil) (C.cons (C.const (.int 0)) (C.cons (C.lst C.nil) C.nil))))))))) <|
  S.seq (S.asg 2 true (C.bin (binOp .Add) (C.var 2) (l_law_by_hand_right_1 k))) <|
  S.seq (S.asg 2 true (C.bin (binOp .Add) (C.var 2) (l_law_by_hand_right_2 k))) <|
  S.seq (S.asg 3 true (C.bin (binOp .Add) (C.bin (binOp .Add) (C.bin (binOp .Add) (C.var 3) (C.repL (C.cons (C.lst (C.cons (C.const (.str "other")) (C.cons (C.const (.bool true)) C.nil))) C.nil) (C.const (.int 5)))) (C.repL (C.cons (C.lst (C.cons (C.const (.str "other")) (C.cons (C.const (.bool true)) C.nil))) C.nil) (C.const (.int 2)))) (C.lst (C.cons (C.const (.bool false)) C.nil)))) <|
  S.seq (S.asg 5 false (C.const (.str "abcdefghij"))) <|
  S.seq (S.asg 6 false (C.un1 opTuple (l_law_by_hand_right_3 k))) <|
  S.seq (S.asg 8 true (l_law_by_hand_right_4 k)) <|
  S.seq (S.asg 2 true (C.bin (binOp .Add) (C.var 2) (C.lst (C.cons (C.call (I_passings k) (C.cons (C.subOwn 8 (C.const (.int 0))) (C.cons (C.subOwn 8 (C.const (.int 1))) C.nil))) (C.cons (C.call (I_passings k) (C.cons (C.subOwn 8 (C.const (.int 0))) (C.cons (C.subOwn 8 (C.const (.int 2))) C.nil))) (C.cons (C.call (I_passings k) (C.cons (C.subOwn 8 (C.const (.int 2))) (C.cons (C.subOwn 8 (C.const (.int 3))) C.nil))) C.nil)))))) <|
  S.seq (S.asg 2 true (C.bin (binOp .Add) (C.var 2) (C.lst (C.cons (C.call (I_passings k) (C.cons (C.subOwn 8 (C.const (.int 1))) (C.cons (C.subOwn 8 (C.const (.int 3))) C.nil))) (C.cons (C.un1 opLen (C.call (I_next_forms k) (C.cons (C.subOwn 8 (C.const (.int 2))) C.nil))) (C.cons (C.un1 opLen (C.call (I_next_forms k) (C.cons (C.subOwn 8 (C.const (.int 0))) C.nil))) C.nil)))))) <|
  S.seq (S.append 2 (C.callK (I_passings k) [1, 0] (C.cons (C.call (I_law_lists k) (C.cons (C.subOwn 8 (C.const (.int 1))) C.nil)) (C.cons (C.call (I_law_lists k) (C.cons (C.subOwn 8 (C.const (.int 0))) C.nil)) C.nil)))) <|
  S.seq (S.asg 3 true (C.bin (binOp .Add) (C.var 3) (C.lst (C.cons (C.const (.int 16)) (C.cons (C.const (.int 6)) (C.cons (C.const (.int 4)) (C.cons (C.const (.int 6)) (C.cons (C.const (.int 7)) (C.cons (C.const (.int 1)) (C.cons (C.const (.int 16)) C.nil)))))))))) <|
  S.seq (S.asg 10 true (C.call (I_next_forms k) (C.cons (C.var 0) C.nil))) <|
  S.seq (S.append 10 (C.const (.str "more"))) <|
  S.seq (S.asg 2 true (C.bin (binOp .Add) (C.var 2) (C.lst (C.cons (C.callK (I_next_forms k) [0] (C.cons (C.call (I_law_lists k) (C.cons (C.var 0) C.nil)) C.nil)) (C.cons (C.call (I_law_heard k) (C.cons (C.const (.int 0)) (C.cons (C.subOwn 8 (C.const (.int 0))) (C.cons (C.var 0) (C.cons (C.const .none) C.nil))))) C.nil))))) <|
  S.seq (S.asg 11 true (C.bin (binOp .Add) (C.tup (C.cons (C.tup (C.cons (C.const (.str "level")) (C.cons (C.tup (C.cons (C.const (.str "c")) (C.cons (C.const (.str "d")) C.nil))) (C.cons (C.tup (C.cons (C.const (.str "a")) (C.cons (C.const (.str "b")) C.nil))) (C.cons (C.const (.str "12")) C.nil))))) C.nil)) (C.sl (C.var 0) (C.part (C.const (.int 1))) C.noPart))) <|
  S.seq (S.asg 2 true (C.bin (binOp .Add) (C.var 2) (C.lst (C.cons (C.call (I_law_heard k) (C.cons (C.const (.int 0)) (C.cons (C.var 0) (C.cons (C.var 11) (C.cons (C.const .none) C.nil))))) (C.cons (C.call (I_law_heard k) (C.cons (C.const (.int 3)) (C.cons (C.var 11) (C.cons (C.var 1) (C.cons (C.var 11) C.nil))))) C.nil))))) <|
  S.ret (C.call (I_law_same k) (C.cons (C.var 2) (C.cons (C.bin (binOp .Add) (C.var 3) (C.lst (C.cons (C.lst (C.cons (C.var 1) C.nil)) (C.cons (C.lst (C.cons (C.const (.str "other")) (C.cons (C.const (.bool true)) C.nil))) (C.cons (C.lst (C.cons (C.const (.str "other")) (C.cons (C.const (.bool true)) C.nil))) (C.cons (C.lst (C.cons (C.const (.str "other")) (C.cons (C.const (.bool true)) C.nil))) C.nil)))))) C.nil)))
theorem zz_law_by_hand_right (k : Nat) : evZ 60 (ctOf (GsO ov defs blt (k + 1)) blt d_law_by_hand_right) d_law_by_hand_right.body = z_law_by_hand_right k := by kernel_rfl
def b_law_right_1 (k : Nat) : ZV :=
  S.seq (S.asg 6 false (C.callO (I_law_of k) 0 (C.cons (C.var 4) C.nil))) <|
  S.seq (S.asg 7 false (C.call (I_law_lists k) (C.cons (C.var 6) C.nil))) <|
  S.seq (S.asg 8 true (C.lst (C.cons (C.call (I_passings k) (C.cons (C.var 2) (C.cons (C.var 6) C.nil))) (C.cons (C.call (I_passings k) (C.cons (C.var 6) (C.cons (C.var 2) C.nil))) (C.cons (C.call (I_passings k) (C.cons (C.call (I_law_lists k) (C.cons (C.var 2) C.nil)) (C.cons (C.var 7) C.nil))) C.nil))))) <|
  S.seq (S.asg 8 true (C.bin (binOp .Add) (C.var 8) (C.lst (C.cons (C.call (I_next_forms k) (C.cons (C.var 6) C.nil)) (C.cons (C.call (I_next_forms k) (C.cons (C.var 7) C.nil)) C.nil))))) <|
  S.ite (C.not (C.test (C.call (I_law_same k) (C.cons (C.var 8) (C.cons (C.bin (binOp .Add) (C.repL (C.cons (C.subTab 3 (C.var 6)) C.nil) (C.const (.int 3))) (C.repL (C.cons (C.call (I_law_next k) (C.cons (C.var 6) C.nil)) C.nil) (C.const (.int 2)))) C.nil))))) (S.ret (C.const (.bool false))) S.skip
def b_law_right_2 (k : Nat) : ZV :=
  S.seq (S.asg 2 false (C.call (I_law_shape k) (C.cons (C.callO (I_law_flat k) 0 (C.cons (C.const (.int 7)) (C.cons (C.const (.int 3)) C.nil))) C.nil))) <|
  S.seq (S.ite (C.cmp (cmpOp .Gt) (C.call (I_law_many k) (C.cons (C.var 2) C.nil)) (C.const (.int 20))) S.cont S.skip) <|
  S.seq (S.asgTab 3 (I_law_steps k) (C.cons (C.var 2) C.nil)) <|
  S.seq (S.asg 4 true (C.sortTab 3)) <|
  S.for_ (C.range1 (C.const (.int 4))) (C.tgName 5) (b_law_right_1 k)
def z_law_right (k : Nat) : ZV :=
  S.seq (S.for_ (C.range1 (C.const (.int 4))) (C.tgName 1) (b_law_right_2 k)) <|
  S.ret (C.const (.bool true))
theorem zz_law_right (k : Nat) : evZ 60 (ctOf (GsO ov defs blt (k + 1)) blt d_law_right) d_law_right.body = z_law_right k := by kernel_rfl
def b_law_many_1 (k : Nat) : ZV :=
  S.asg 1 true (C.bin (binOp .Mult) (C.var 1) (C.bin (binOp .Sub) (C.var 4) (C.var 5)))
def b_law_many_2 (k : Nat) : ZV :=
  S.asg 1 false (C.bin (binOp .FloorDiv) (C.var 1) (C.bin (binOp .Add) (C.var 5) (C.const (.int 1))))
def b_law_many_3 (k : Nat) : ZV :=
  S.seq (S.par 3 4 false false (C.bin opCount (C.subOwn 2 (C.const (.int 3))) (C.const (.str "1"))) (C.un1 opLen (C.subOwn 2 (C.const (.int 3))))) <|
  S.seq (S.for_ (C.range1 (C.var 3)) (C.tgName 5) (b_law_many_1 k)) <|
  S.for_ (C.range1 (C.var 3)) (C.tgName 5) (b_law_many_2 k)
def z_law_many (k : Nat) : ZV :=
  S.seq (S.asg 1 false (C.const (.int 1))) <|
  S.seq (S.for_ (C.iter (C.var 0)) (C.tgName 2) (b_law_many_3 k)) <|
  S.ret (C.var 1)
theorem zz_law_many (k : Nat) : evZ 60 (ctOf (GsO ov defs blt (k + 1)) blt d_law_many) d_law_many.body = z_law_many k := by kernel_rfl
def b_law_1 (k : Nat) : ZV :=
  S.seq (S.asg 3 true (C.call (I_law_box k) (C.cons (C.var 1) (C.cons (C.var 2) C.nil)))) <|
  S.ite (C.or (C.not (C.test (C.callO (I_law_right k) 3 C.nil))) (C.not (C.test (C.callO (I_law_right k) 3 C.nil)))) (S.ret (C.const (.bool false))) S.skip
def z_law (k : Nat) : ZV :=
  S.seq (S.ite (C.not (C.test (C.call (I_law_by_hand_right k) C.nil))) (S.ret (C.const (.bool false))) S.skip) <|
  S.seq (S.asg 1 false (C.call (I_law_cells k) (C.cons (C.var 0) (C.cons (C.const (.int 3)) C.nil)))) <|
  S.seq (S.for_ (C.range1 (C.lenOwn 1)) (C.tgName 2) (b_law_1 k)) <|
  S.ret (C.const (.bool true))
theorem zz_law (k : Nat) : evZ 60 (ctOf (GsO ov defs blt (k + 1)) blt d_law) d_law.body = z_law k := by kernel_rfl
theorem sem_tupled (k : Nat) : (I_tupled (k + 1)).sem = runDef false 1 2 (z_tupled k) := by
  show semOf (GsO ov defs blt (k + 1)) blt d_tupled = _
  rw [semOf_eq, zz_tupled]
  rfl
theorem sem_next_forms (k : Nat) : (I_next_forms (k + 1)).sem = runDef false 1 10 (z_next_forms k) := by
  show semOf (GsO ov defs blt (k + 1)) blt d_next_forms = _
  rw [semOf_eq, zz_next_forms]
  rfl
theorem sem_behind_by (k : Nat) : (I_behind_by (k + 1)).sem = runDef false 1 2 (z_behind_by k) := by
  show semOf (GsO ov defs blt (k + 1)) blt d_behind_by = _
  rw [semOf_eq, zz_behind_by]
  rfl
theorem sem_word_by (k : Nat) : (I_word_by (k + 1)).sem = runDef false 2 5 (z_word_by k) := by
  show semOf (GsO ov defs blt (k + 1)) blt d_word_by = _
  rw [semOf_eq, zz_word_by]
  rfl
theorem sem_check_kinds (k : Nat) : (I_check_kinds (k + 1)).sem = runDef false 1 5 (z_check_kinds k) := by
  show semOf (GsO ov defs blt (k + 1)) blt d_check_kinds = _
  rw [semOf_eq, zz_check_kinds]
  rfl
theorem sem_passings (k : Nat) : (I_passings (k + 1)).sem = runDef false 2 7 (z_passings k) := by
  show semOf (GsO ov defs blt (k + 1)) blt d_passings = _
  rw [semOf_eq, zz_passings]
  rfl
theorem sem_a_course (k : Nat) : (I_a_course (k + 1)).sem = runDef false 2 6 (z_a_course k) := by
  show semOf (GsO ov defs blt (k + 1)) blt d_a_course = _
  rw [semOf_eq, zz_a_course]
  rfl
theorem sem_is_course (k : Nat) : (I_is_course (k + 1)).sem = runDef false 3 5 (z_is_course k) := by
  show semOf (GsO ov defs blt (k + 1)) blt d_is_course = _
  rw [semOf_eq, zz_is_course]
  rfl
theorem sem_between (k : Nat) : (I_between (k + 1)).sem = runDef false 3 3 (z_between k) := by
  show semOf (GsO ov defs blt (k + 1)) blt d_between = _
  rw [semOf_eq, zz_between]
  rfl
theorem sem_middle (k : Nat) : (I_middle (k + 1)).sem = runDef false 3 9 (z_middle k) := by
  show semOf (GsO ov defs blt (k + 1)) blt d_middle = _
  rw [semOf_eq, zz_middle]
  rfl
theorem sem_law_box (k : Nat) : (I_law_box (k + 1)).sem = runDef false 2 3 (z_law_box k) := by
  show semOf (GsO ov defs blt (k + 1)) blt d_law_box = _
  rw [semOf_eq, zz_law_box]
  rfl
theorem sem_law_take (k : Nat) : (I_law_take (k + 1)).sem = runDef true 2 6 (z_law_take k) := by
  show semOf (GsO ov defs blt (k + 1)) blt d_law_take = _
  rw [semOf_eq, zz_law_take]
  rfl
theorem sem_law_cells (k : Nat) : (I_law_cells (k + 1)).sem = runDef false 2 6 (z_law_cells k) := by
  show semOf (GsO ov defs blt (k + 1)) blt d_law_cells = _
  rw [semOf_eq, zz_law_cells]
  rfl
theorem sem_law_of (k : Nat) : (I_law_of (k + 1)).sem = runDef true 2 2 (z_law_of k) := by
  show semOf (GsO ov defs blt (k + 1)) blt d_law_of = _
  rw [semOf_eq, zz_law_of]
  rfl
theorem sem_law_pick (k : Nat) : (I_law_pick (k + 1)).sem = runDef true 3 6 (z_law_pick k) := by
  show semOf (GsO ov defs blt (k + 1)) blt d_law_pick = _
  rw [semOf_eq, zz_law_pick]
  rfl
theorem sem_law_lists (k : Nat) : (I_law_lists (k + 1)).sem = runDef false 1 2 (z_law_lists k) := by
  show semOf (GsO ov defs blt (k + 1)) blt d_law_lists = _
  rw [semOf_eq, zz_law_lists]
  rfl
theorem sem_law_same (k : Nat) : (I_law_same (k + 1)).sem = runDef false 2 5 (z_law_same k) := by
  show semOf (GsO ov defs blt (k + 1)) blt d_law_same = _
  rw [semOf_eq, zz_law_same]
  rfl
theorem sem_law_split (k : Nat) : (I_law_split (k + 1)).sem = runDef false 5 7 (z_law_split k) := by
  show semOf (GsO ov defs blt (k + 1)) blt d_law_split = _
  rw [semOf_eq, zz_law_split]
  rfl
theorem sem_law_no_cross (k : Nat) : (I_law_no_cross (k + 1)).sem = runDef false 1 3 (z_law_no_cross k) := by
  show semOf (GsO ov defs blt (k + 1)) blt d_law_no_cross = _
  rw [semOf_eq, zz_law_no_cross]
  rfl
theorem sem_law_flat (k : Nat) : (I_law_flat (k + 1)).sem = runDef true 3 14 (z_law_flat k) := by
  show semOf (GsO ov defs blt (k + 1)) blt d_law_flat = _
  rw [semOf_eq, zz_law_flat]
  rfl
theorem sem_law_seams (k : Nat) : (I_law_seams (k + 1)).sem = runDef false 1 9 (z_law_seams k) := by
  show semOf (GsO ov defs blt (k + 1)) blt d_law_seams = _
  rw [semOf_eq, zz_law_seams]
  rfl
theorem sem_law_rows (k : Nat) : (I_law_rows (k + 1)).sem = runDef false 2 11 (z_law_rows k) := by
  show semOf (GsO ov defs blt (k + 1)) blt d_law_rows = _
  rw [semOf_eq, zz_law_rows]
  rfl
theorem sem_law_word (k : Nat) : (I_law_word (k + 1)).sem = runDef false 2 9 (z_law_word k) := by
  show semOf (GsO ov defs blt (k + 1)) blt d_law_word = _
  rw [semOf_eq, zz_law_word]
  rfl
theorem sem_law_shape (k : Nat) : (I_law_shape (k + 1)).sem = runDef false 1 2 (z_law_shape k) := by
  show semOf (GsO ov defs blt (k + 1)) blt d_law_shape = _
  rw [semOf_eq, zz_law_shape]
  rfl
theorem sem_law_next (k : Nat) : (I_law_next (k + 1)).sem = runDef false 1 7 (z_law_next k) := by
  show semOf (GsO ov defs blt (k + 1)) blt d_law_next = _
  rw [semOf_eq, zz_law_next]
  rfl
theorem sem_law_steps (k : Nat) : (I_law_steps (k + 1)).sem = runDef false 1 6 (z_law_steps k) := by
  show semOf (GsO ov defs blt (k + 1)) blt d_law_steps = _
  rw [semOf_eq, zz_law_steps]
  rfl
theorem sem_law_by_hand_right (k : Nat) : (I_law_by_hand_right (k + 1)).sem = runDef false 0 12 (z_law_by_hand_right k) := by
  show semOf (GsO ov defs blt (k + 1)) blt d_law_by_hand_right = _
  rw [semOf_eq, zz_law_by_hand_right]
  rfl
theorem sem_law_right (k : Nat) : (I_law_right (k + 1)).sem = runDef true 1 9 (z_law_right k) := by
  show semOf (GsO ov defs blt (k + 1)) blt d_law_right = _
  rw [semOf_eq, zz_law_right]
  rfl
theorem sem_law_many (k : Nat) : (I_law_many (k + 1)).sem = runDef false 1 6 (z_law_many k) := by
  show semOf (GsO ov defs blt (k + 1)) blt d_law_many = _
  rw [semOf_eq, zz_law_many]
  rfl
theorem sem_law (k : Nat) : (I_law (k + 1)).sem = runDef false 1 4 (z_law k) := by
  show semOf (GsO ov defs blt (k + 1)) blt d_law = _
  rw [semOf_eq, zz_law]
  rfl
end K86

set_option maxRecDepth 100000
set_option maxHeartbeats 0
namespace K86
open PySem PySem.Spec L2 Dl
open PyProof.Rows hiding St
theorem hand_run : ((z_law_by_hand_right 38) (List.replicate 12 .un)).map (fun p => p.1) = some (.rt (.bool true)) := by kernel_rfl
end K86

set_option maxRecDepth 100000
set_option maxHeartbeats 4000000
/-! The plain law, part 1: numbers drawn, picks. -/
namespace K86
open PySem PySem.Spec L2 Dl
open PyProof.Rows hiding St
theorem at3_0 (a b c : Dl.D) : atI [a, b, c] 0 = some a := rfl
theorem at3_1 (a b c : Dl.D) : atI [a, b, c] 1 = some b := rfl
theorem at3_2 (a b c : Dl.D) : atI [a, b, c] 2 = some c := rfl
theorem ix3_0 : ixN 3 0 = some 0 := rfl
theorem ix3_1 : ixN 3 1 = some 1 := rfl
theorem ix3_2 : ixN 3 2 = some 2 := rfl
theorem ixN_lt {n : Nat} {i : Int} (h0 : 0 ≤ i) (h1 : i < n) : ixN n i = some i.toNat := by
  unfold ixN
  rw [if_pos h0, if_pos h1]
theorem atI_lt {α : Type} {xs : List α} {i : Int} (h0 : 0 ≤ i) (h1 : i < xs.length) : ∃ x, xs[i.toNat]? = some x ∧ atI xs i = some x := by
  have hl : i.toNat < xs.length := by omega
  refine ⟨xs[i.toNat], List.getElem?_eq_getElem hl, ?_⟩
  unfold atI
  rw [ixN_lt h0 h1]
  exact List.getElem?_eq_getElem hl
/-! ### loops -/
theorem forL_inv {g : GV} {b : ZV} {ds : List Dl.D} (I : Nat → Rho → Prop) (h : ∀ i d, ds[i]? = some d → ∀ ρ, I i ρ → ∃ ρ1 ρ2, g d ρ = some ρ1 ∧ b ρ1 = some (.nx, ρ2) ∧ I (i + 1) ρ2) {ρ : Rho} (h0 : I 0 ρ) : ∃ ρ', S.forL g b ds ρ = some (.nx, ρ') ∧ I ds.length ρ' := by
  have : ∀ (n i : Nat) (ρ : Rho), ds.length - i = n → i ≤ ds.length → I i ρ → ∃ ρ', S.forL g b (ds.drop i) ρ = some (.nx, ρ') ∧ I ds.length ρ' := by
    intro n
    induction n with
    | zero =>
      intro i ρ hn hi hI
      have : i = ds.length := by omega
      subst this
      rw [List.drop_length]
      exact ⟨ρ, rfl, hI⟩
    | succ n ih =>
      intro i ρ hn hi hI
      have hl : i < ds.length := by omega
      obtain ⟨ρ1, ρ2, e1, e2, e3⟩ := h i _ (List.getElem?_eq_getElem hl) ρ hI
      obtain ⟨ρ', e4, e5⟩ := ih (i + 1) ρ2 (by omega) hl e3
      refine ⟨ρ', ?_, e5⟩
      rw [List.drop_eq_getElem_cons hl]
      unfold S.forL
      rw [e1]
      simp only [e2]
      exact e4
  have := this ds.length 0 ρ (by omega) (by omega) h0
  rwa [List.drop_zero] at this
theorem lcLoop_eq {vs : List Nat} {turn : Dl.D → Rho → Option (Option Dl.D × Rho)} {ρ0 : Rho} (f : Dl.D → Option Dl.D) : ∀ {ds acc : List Dl.D}, (∀ d ∈ ds, ∃ ρ', turn d ρ0 = some (f d, ρ') ∧ C.wipeR ρ' vs = ρ0) → acc.length + ds.length ≤ line → C.lcLoop vs turn ds acc ρ0 = some (acc ++ ds.filterMap f, ρ0)
  | [], acc, _, _ => by simp [C.lcLoop]
  | d :: ds, acc, h, hl => by
    obtain ⟨ρ', e1, e2⟩ := h d List.mem_cons_self
    have h' := fun x hx => h x (List.mem_cons_of_mem _ hx)
    rw [List.length_cons] at hl
    unfold C.lcLoop
    rw [e1, List.filterMap_cons]
    cases hf : f d with
    | none =>
      simp only [e2]
      exact lcLoop_eq f h' (by omega)
    | some y =>
      have hlt : acc.length < line := by omega
      simp only [decide_eq_true hlt, e2]
      rw [lcLoop_eq f h' (by rw [List.length_append, List.length_singleton]; omega)]
      simp
theorem lc_eq {vs : List Nat} {it : AV} {g : GV} {t : TV} {e : EV} {ρ ρ1 : Rho} {ds : List Dl.D} (f : Dl.D → Option Dl.D) (h : it ρ = some (ds, ρ1)) (hn : (vs.all fun v => C.notOwn ρ1[v]?) = true) (hl : ds.length ≤ line)
    (ht : ∀ d ∈ ds, ∃ ρ', C.lcTurn g t e d (C.wipeR ρ1 vs) = some (f d, ρ') ∧ C.wipeR ρ' vs = C.wipeR ρ1 vs) : C.lc vs it g t e ρ = some (.list (ds.filterMap f), C.back ρ1 (C.wipeR ρ1 vs) vs) := by
  unfold C.lc
  rw [h]
  simp only [hn]
  rw [lcLoop_eq f ht (by simpa using hl)]
  rfl
/-! ### numbers drawn -/
def Box (os : List Dl.D) (n : Int) : Prop := ∃ b0 b1 b2 : Int, os = [.int b0, .int b1, .int b2] ∧ 0 ≤ b2 ∧ b2 ≤ n
theorem Box.mono {os : List Dl.D} {n m : Int} (h : Box os n) (hm : n ≤ m) : Box os m := by
  obtain ⟨b0, b1, b2, e, h1, h2⟩ := h
  exact ⟨b0, b1, b2, e, h1, by omega⟩
theorem take_pos (k : Nat) (b0 b1 b2 top : Int) (h0 : 0 < b0) (h1 : 0 < top) (h2 : top < 1073741824) :
    (I_law_take (k + 1)).sem [.int b0, .int b1, .int b2] [.int top] = some (.int (b0 % top), [.int (b0 / top), .int b1, .int b2]) := by
  rw [sem_law_take]
  simp [z_law_take, runDef, S.seq, S.skip, S.brk, S.cont, S.ite, S.asg, S.asgG, S.par, S.svOf, S.setItem, S.append, S.drop, S.aug, S.ret, S.retN, S.for_, C.const, C.varV, C.var, C.un1, C.bin, C.cmp, C.chain, C.ofT, C.test, C.not, C.and, C.or, C.andV, C.orV, C.ifx, C.nil, C.cons, C.star, C.tup, C.lst, C.repL, C.subOwn, C.lenOwn, C.noPart, C.part, C.sl, C.call, C.callO, C.callS, C.callK, C.popOwn, C.walk, C.iter, C.range1, C.range2, C.seqOf, C.enum, C.zip2, C.tgName, C.tgNil, C.tgCons, C.tgTup, C.yes, chk, binOp, cmpOp, cmpI, List.getElem?_cons, opInt, opMod, opDiv, at3_0, ix3_0, h0, h1, h2]
def onceV (b1 b2 : Int) : Int := (b1 + 48271 * b2) * (39373 + b2) % 2147483647
def twiceV (b1 b2 : Int) : Int := (onceV b1 b2 + b2 + b1 / 1000003) * (onceV b1 b2 % 40009 + 7) % 2147483629
def takeV (b1 b2 : Int) : Int := (twiceV b1 b2 * 48271 + onceV b1 b2) % 2147483587 / 64
theorem take_zero (k : Nat) (b0 b1 b2 top : Int) (h0 : ¬ 0 < b0) (h1 : 0 < top) (hb : in64 (39373 + (b2 + 1)) = true) :
    (I_law_take (k + 1)).sem [.int b0, .int b1, .int b2] [.int top] = some (.int (takeV b1 (b2 + 1) % top), [.int b0, .int b1, .int (b2 + 1)]) := by
  rw [sem_law_take]
  have f1 : ∀ x : Int, in64 (x % 40009 + 7) = true := fun x => by unfold in64; simp; omega
  have f2 : in64 48271 = true := by decide
  simp [z_law_take, runDef, S.seq, S.skip, S.brk, S.cont, S.ite, S.asg, S.asgG, S.par, S.svOf, S.setItem, S.append, S.drop, S.aug, S.ret, S.retN, S.for_, C.const, C.varV, C.var, C.un1, C.bin, C.cmp, C.chain, C.ofT, C.test, C.not, C.and, C.or, C.andV, C.orV, C.ifx, C.nil, C.cons, C.star, C.tup, C.lst, C.repL, C.subOwn, C.lenOwn, C.noPart, C.part, C.sl, C.call, C.callO, C.callS, C.callK, C.popOwn, C.walk, C.iter, C.range1, C.range2, C.seqOf, C.enum, C.zip2, C.tgName, C.tgNil, C.tgCons, C.tgTup, C.yes, chk, binOp, cmpOp, cmpI, List.getElem?_cons, opInt, opMod, opDiv, opMul, opAdd, at3_0, at3_1, at3_2, ix3_0, ix3_1, ix3_2, h0, h1, hb, f1, f2, takeV, twiceV, onceV]
def big : Int := 1000000000000
theorem take_ok (k : Nat) {os : List Dl.D} {n top : Int} (hB : Box os n) (hn : n < big) (h1 : 0 < top) (h2 : top < 1073741824) :
    ∃ r os', 0 ≤ r ∧ r < top ∧ (I_law_take (k + 1)).sem os [.int top] = some (.int r, os') ∧ Box os' (n + 1) := by
  obtain ⟨b0, b1, b2, rfl, hb1, hb2⟩ := hB
  by_cases h0 : 0 < b0
  · exact ⟨_, _, Int.emod_nonneg _ (by omega), Int.emod_lt_of_pos _ h1, take_pos k b0 b1 b2 top h0 h1 h2, b0 / top, b1, b2, rfl, hb1, by omega⟩
  · exact ⟨_, _, Int.emod_nonneg _ (by omega), Int.emod_lt_of_pos _ h1, take_zero k b0 b1 b2 top h0 h1 (by unfold big at hn; unfold in64; simp; omega), b0, b1, b2 + 1, rfl, by omega, by omega⟩
/-- one of some -/
theorem of_ok (k : Nat) {os : List Dl.D} {n : Int} (hB : Box os n) (hn : n < big) {xs : List Dl.D} (h1 : xs ≠ []) (h2 : xs.length < 1073741824) {d : Dl.D} (hd : d = .list xs ∨ d = .tuple xs) :
    ∃ r os', r ∈ xs ∧ (I_law_of (k + 2)).sem os [d] = some (r, os') ∧ Box os' (n + 1) := by
  have hl : 0 < xs.length := List.length_pos_iff.mpr h1
  obtain ⟨r, os', r1, r2, e, hB'⟩ := take_ok k (top := xs.length) hB hn (by omega) (by omega)
  obtain ⟨x, hx, hax⟩ := atI_lt r1 r2
  refine ⟨x, os', List.mem_of_getElem? hx, ?_, hB'⟩
  rw [sem_law_of]
  rcases hd with rfl | rfl
  · simp [z_law_of, runDef, S.seq, S.skip, S.brk, S.cont, S.ite, S.asg, S.asgG, S.par, S.svOf, S.setItem, S.append, S.drop, S.aug, S.ret, S.retN, S.for_, C.const, C.varV, C.var, C.un1, C.bin, C.cmp, C.chain, C.ofT, C.test, C.not, C.and, C.or, C.andV, C.orV, C.ifx, C.nil, C.cons, C.star, C.tup, C.lst, C.repL, C.subOwn, C.lenOwn, C.noPart, C.part, C.sl, C.call, C.callO, C.callS, C.callK, C.popOwn, C.walk, C.iter, C.range1, C.range2, C.seqOf, C.enum, C.zip2, C.tgName, C.tgNil, C.tgCons, C.tgTup, C.yes, chk, binOp, cmpOp, cmpI, List.getElem?_cons, opLen, item, e, hax]
  · simp [z_law_of, runDef, S.seq, S.skip, S.brk, S.cont, S.ite, S.asg, S.asgG, S.par, S.svOf, S.setItem, S.append, S.drop, S.aug, S.ret, S.retN, S.for_, C.const, C.varV, C.var, C.un1, C.bin, C.cmp, C.chain, C.ofT, C.test, C.not, C.and, C.or, C.andV, C.orV, C.ifx, C.nil, C.cons, C.star, C.tup, C.lst, C.repL, C.subOwn, C.lenOwn, C.noPart, C.part, C.sl, C.call, C.callO, C.callS, C.callK, C.popOwn, C.walk, C.iter, C.range1, C.range2, C.seqOf, C.enum, C.zip2, C.tgName, C.tgNil, C.tgCons, C.tgTup, C.yes, chk, binOp, cmpOp, cmpI, List.getElem?_cons, opLen, item, e, hax]
end K86

set_option maxRecDepth 100000
set_option maxHeartbeats 4000000
/-! The plain law, part 2: picks, boxes, cells. -/
namespace K86
open PySem PySem.Spec L2 Dl
open PyProof.Rows hiding St
theorem upTo_get {lo : Int} {n i : Nat} {d : Dl.D} (h : (C.upTo lo n)[i]? = some d) : i < n ∧ d = .int (lo + i) := by
  unfold C.upTo at h
  rw [List.getElem?_map] at h
  obtain ⟨j, h1, h2⟩ := Option.map_eq_some_iff.mp h
  obtain ⟨h3, h4⟩ := List.getElem?_eq_some_iff.mp h1
  rw [List.getElem_range] at h4
  rw [List.length_range] at h3
  subst h4
  exact ⟨h3, h2.symm⟩
theorem upTo_len (lo : Int) (n : Nat) : (C.upTo lo n).length = n := by unfold C.upTo; simp
theorem in62_small {i : Int} (h0 : 0 ≤ i) (h1 : i < 1073741824) : in62 i = true := by
  unfold in62
  rw [decide_eq_true (by omega), decide_eq_true (by omega)]
  rfl
theorem erase_perm {α : Type} : ∀ {xs : List α} {j : Nat} {x : α}, xs[j]? = some x → (x :: xs.eraseIdx j).Perm xs
  | [], _, _, h => by simp at h
  | a :: r, 0, x, h => by
    simp at h; subst h
    exact List.Perm.refl _
  | a :: r, j + 1, x, h => by
    have ih := erase_perm (xs := r) (j := j) (by simpa using h)
    exact (List.Perm.swap a x _).trans (ih.cons a)
theorem pick_ok (k : Nat) {os : List Dl.D} {n : Int} {xs : List Dl.D} {pool : Dl.D} {m : Int} (hB : Box os n) (hn : n + xs.length < big) (hl : xs.length < 10000000) (hp : opList pool = some (.list xs)) (h0 : 0 ≤ m) :
    ∃ ys rest os', (ys ++ rest).Perm xs ∧ (ys.length : Int) = min m xs.length ∧ (I_law_pick (k + 2)).sem os [pool, .int m] = some (.list ys, os') ∧ Box os' (n + xs.length) := by
  rw [sem_law_pick]
  let cnt : Int := if (xs.length : Int) < m then xs.length else m
  have hc0 : 0 ≤ cnt := by show 0 ≤ (if (xs.length : Int) < m then (xs.length : Int) else m); split <;> omega
  have hc1 : cnt ≤ xs.length := by show (if (xs.length : Int) < m then (xs.length : Int) else m) ≤ _; split <;> omega
  have hcm : cnt = min m xs.length := by show (if (xs.length : Int) < m then (xs.length : Int) else m) = _; split <;> omega
  have loop := forL_inv (g := C.tgName 5) (b := b_law_pick_1 (k + 1)) (ds := C.upTo 0 cnt.toNat)
    (fun i ρ => ∃ (rest ys os' : List Dl.D) (x5 : SV), ρ = [.own os', .val pool, .val (.int m), .own rest, .own ys, x5] ∧ (ys ++ rest).Perm xs ∧ ys.length = i ∧ Box os' (n + i))
    (fun i d hd ρ ⟨rest, ys, os', x5, e, hP, hy, hB'⟩ => by
      obtain ⟨hi, rfl⟩ := upTo_get hd
      subst e
      have hlen := hP.length_eq
      rw [List.length_append] at hlen
      have hr : 0 < rest.length := by omega
      obtain ⟨r, os'', r1, r2, et, hB''⟩ := take_ok k (top := rest.length) hB' (by omega) (by omega) (by omega)
      have hrl : r.toNat < rest.length := by omega
      have hx : rest[r.toNat]? = some rest[r.toNat] := List.getElem?_eq_getElem hrl
      have hlt : ys.length < line := by unfold line; omega
      refine ⟨[.own os', .val pool, .val (.int m), .own rest, .own ys, .val (.int (0 + i))], [.own os'', .val pool, .val (.int m), .own (rest.eraseIdx r.toNat), .own (ys ++ [rest[r.toNat]]), .val (.int (0 + i))], rfl, ?_, rest.eraseIdx r.toNat, ys ++ [rest[r.toNat]], os'', .val (.int (0 + i)), rfl, ?_, by simp [hy], ?_⟩
      · simp [b_law_pick_1, runDef, S.seq, S.skip, S.brk, S.cont, S.ite, S.asg, S.asgG, S.par, S.svOf, S.setItem, S.append, S.drop, S.aug, S.ret, S.retN, S.for_, C.const, C.varV, C.var, C.un1, C.bin, C.cmp, C.chain, C.ofT, C.test, C.not, C.and, C.or, C.andV, C.orV, C.ifx, C.nil, C.cons, C.star, C.tup, C.lst, C.repL, C.subOwn, C.lenOwn, C.noPart, C.part, C.sl, C.call, C.callO, C.callS, C.callK, C.popOwn, C.walk, C.iter, C.range1, C.range2, C.seqOf, C.enum, C.zip2, C.tgName, C.tgNil, C.tgCons, C.tgTup, C.yes, chk, binOp, cmpOp, cmpI, List.getElem?_cons, opLen, et, ixN_lt r1 r2, in62_small r1 (by omega), hx, hlt]
      · have p1 := erase_perm hx
        rw [List.append_assoc]
        exact (List.Perm.append_left ys p1).trans hP
      · have : n + (i : Int) + 1 = n + ((i + 1 : Nat) : Int) := by omega
        rw [← this]
        exact hB'')
    (ρ := [.own os, .val pool, .val (.int m), .own xs, .own [], .un]) ⟨xs, [], os, .un, rfl, List.Perm.refl _, rfl, by simpa using hB⟩
  obtain ⟨ρ', e1, rest, ys, os', x5, e2, hP, hy, hB'⟩ := loop
  rw [upTo_len] at hy hB'
  subst e2
  refine ⟨ys, rest, os', hP, by omega, ?_, hB'.mono (by omega)⟩
  have hmin : opMin2 (.int m) (.int (xs.length : Int)) = some (.int cnt) := rfl
  have hc62 : in62 cnt = true := in62_small hc0 (by omega)
  simp [z_law_pick, runDef, S.seq, S.skip, S.brk, S.cont, S.ite, S.asg, S.asgG, S.par, S.svOf, S.setItem, S.append, S.drop, S.aug, S.ret, S.retN, S.for_, C.const, C.varV, C.var, C.un1, C.bin, C.cmp, C.chain, C.ofT, C.test, C.not, C.and, C.or, C.andV, C.orV, C.ifx, C.nil, C.cons, C.star, C.tup, C.lst, C.repL, C.subOwn, C.lenOwn, C.noPart, C.part, C.sl, C.call, C.callO, C.callS, C.callK, C.popOwn, C.walk, C.iter, C.range1, C.range2, C.seqOf, C.enum, C.zip2, C.tgName, C.tgNil, C.tgCons, C.tgTup, C.yes, chk, binOp, cmpOp, cmpI, List.getElem?_cons, hp, hmin, hc62, e1]
/-! ### boxes, cells -/
def absV (g : Int) : Int := if g < 0 then -g else g
theorem box_ok (k : Nat) (ns : List Int) (i : Nat) (hi : i < ns.length) (h3 : ns.length < 64) : ∃ os, (I_law_box (k + 1)).sem [] [.list (ns.map .int), .int i] = some (.list os, []) ∧ Box os 0 := by
  rw [sem_law_box]
  have f1 : ∀ (p : Prop) [Decidable p], in64 (if p then (1 : Int) else 0) = true := fun p _ => by by_cases h : p <;> simp [h] <;> decide
  have f2 : in64 39373 = true := by decide
  have f3 : (10 : Int) ^ 18 = 1000000000000000000 := by decide
  have f4 : ((10 : Int).natAbs < 2 ^ 64) := by decide
  have h : (i : Int) < (ns.map PyData.int).length := by rw [List.length_map]; omega
  obtain ⟨x, h1, h2⟩ := atI_lt (xs := ns.map PyData.int) (i := i) (by omega) h
  rw [List.getElem?_map] at h1
  obtain ⟨g, _, rfl⟩ := Option.map_eq_some_iff.mp h1
  refine ⟨[.int (absV g * (if 1000000000000000000 ≤ absV g then 1 else 0)), .int (g % 2305843009213693951 + 39373 * i + 2809), .int 0], ?_, _, _, 0, rfl, by omega, by omega⟩
  have h' : (i : Int) < ns.length := by omega
  simp [z_law_box, runDef, S.seq, S.skip, S.brk, S.cont, S.ite, S.asg, S.asgG, S.par, S.svOf, S.setItem, S.append, S.drop, S.aug, S.ret, S.retN, S.for_, C.const, C.varV, C.var, C.un1, C.bin, C.cmp, C.chain, C.ofT, C.test, C.not, C.and, C.or, C.andV, C.orV, C.ifx, C.nil, C.cons, C.star, C.tup, C.lst, C.repL, C.subOwn, C.lenOwn, C.noPart, C.part, C.sl, C.call, C.callO, C.callS, C.callK, C.popOwn, C.walk, C.iter, C.range1, C.range2, C.seqOf, C.enum, C.zip2, C.tgName, C.tgNil, C.tgCons, C.tgTup, C.yes, chk, binOp, cmpOp, cmpI, List.getElem?_cons, opLen, opAbs, opInt, opPow, opMul, opMod, opAdd, item, h', h2, f1, f2, f3, f4, line, absV]
  congr
/-- cells: one to three whole numbers -/
theorem cells_ok (k : Nat) (ns : List Int) (hn : ns.length ≤ 63) : ∃ ms : List Int, (I_law_cells (k + 1)).sem [] [.list (ns.map .int), .int 3] = some (.list (ms.map .int), []) ∧ 1 ≤ ms.length ∧ ms.length ≤ 3 := by
  rw [sem_law_cells]
  have s1 : slice (.list (ns.map .int)) none (some 3) = some (.list ((ns.take 3).map .int)) := by
    show some (PyData.list (Dl.cutD (ns.map .int) none (some 3))) = _
    unfold Dl.cutD
    congr 2
    show (List.drop 0 (ns.map PyData.int)).take ((HT.sIx (ns.map PyData.int).length (ns.map PyData.int).length (some 3)) - 0) = _
    rw [List.drop_zero, List.map_take]
    unfold HT.sIx
    simp
  have s2 : slice (.list (ns.map .int)) (some 3) (some 63) = some (.list ((ns.drop 3).map .int)) := by
    show some (PyData.list (Dl.cutD (ns.map .int) (some 3) (some 63))) = _
    unfold Dl.cutD
    congr 2
    have e1 : HT.sIx (ns.map PyData.int).length 0 (some 3) = min 3 ns.length := by unfold HT.sIx; simp
    have e2 : HT.sIx (ns.map PyData.int).length (ns.map PyData.int).length (some 63) = ns.length := by unfold HT.sIx; simp; omega
    rw [e1, e2, List.map_drop]
    by_cases h : 3 ≤ ns.length
    · rw [Nat.min_eq_left h, List.take_of_length_le (by simp)]
    · rw [List.drop_eq_nil_of_le (by simp; omega), List.drop_eq_nil_of_le (by simp; omega)]
      simp
  have num : ∀ (l : List Int) (j : Nat), C.number j (l.map .int) = (l.mapIdx fun i x => PyData.tuple [.int ((j + i : Nat) : Int), .int x]) := fun l => by
    induction l with
    | nil => intro j; rfl
    | cons x r ih =>
      intro j
      rw [List.map_cons, List.mapIdx_cons]
      show _ :: C.number (j + 1) _ = _
      rw [ih]
      simp [Nat.add_assoc, Nat.add_comm 1]
  have f2 : ∀ i : Nat, i < 60 → in64 ((i : Int) + 2) = true := fun i hi => by unfold in64; simp; omega
  by_cases hc : ns.length < 3 ∧ ns ≠ []
  · -- no turn of the loop
    obtain ⟨h1, h2⟩ := hc
    have e1 : ns.take 3 = ns := List.take_of_length_le (by omega)
    have e2 : ns.drop 3 = [] := List.drop_eq_nil_of_le (by omega)
    rw [e1] at s1
    rw [e2] at s2
    refine ⟨ns, ?_, by have := List.length_pos_iff.mpr h2; omega, by omega⟩
    have ht : truth (.list (ns.map .int)) = some true := by
      cases ns with
      | nil => exact absurd rfl h2
      | cons => rfl
    simp [z_law_cells, runDef, S.seq, S.skip, S.brk, S.cont, S.ite, S.asg, S.asgG, S.par, S.svOf, S.setItem, S.append, S.drop, S.aug, S.ret, S.retN, S.for_, C.const, C.varV, C.var, C.un1, C.bin, C.cmp, C.chain, C.ofT, C.test, C.not, C.and, C.or, C.andV, C.orV, C.ifx, C.nil, C.cons, C.star, C.tup, C.lst, C.repL, C.subOwn, C.lenOwn, C.noPart, C.part, C.sl, C.call, C.callO, C.callS, C.callK, C.popOwn, C.walk, C.iter, C.range1, C.range2, C.seqOf, C.enum, C.zip2, C.tgName, C.tgNil, C.tgCons, C.tgTup, C.yes, chk, binOp, cmpOp, cmpI, List.getElem?_cons, s1, s2, opList, ht, S.forL, C.number]
  · -- a list of one or three
    have hcell : ∃ c : List Int, (if ns = [] then [0] else ns.take 3) = c ∧ (ns = [] ∧ c = [0] ∨ 3 ≤ ns.length ∧ c = ns.take 3 ∧ c.length = 3) := by
      by_cases h : ns = []
      · exact ⟨[0], by rw [if_pos h], .inl ⟨h, rfl⟩⟩
      · have : 3 ≤ ns.length := by
          by_cases h3 : ns.length < 3
          · exact absurd ⟨h3, h⟩ hc
          · omega
        exact ⟨ns.take 3, by rw [if_neg h], .inr ⟨this, rfl, by simp; omega⟩⟩
    obtain ⟨c, _, hc2⟩ := hcell
    rcases hc2 with ⟨rfl, rfl⟩ | ⟨h3, rfl, hcl⟩
    · refine ⟨[0], ?_, by simp, by simp⟩
      have ht : truth (.list ([] : List Dl.D)) = some false := rfl
      simp at s1 s2
      simp [z_law_cells, runDef, S.seq, S.skip, S.brk, S.cont, S.ite, S.asg, S.asgG, S.par, S.svOf, S.setItem, S.append, S.drop, S.aug, S.ret, S.retN, S.for_, C.const, C.varV, C.var, C.un1, C.bin, C.cmp, C.chain, C.ofT, C.test, C.not, C.and, C.or, C.andV, C.orV, C.ifx, C.nil, C.cons, C.star, C.tup, C.lst, C.repL, C.subOwn, C.lenOwn, C.noPart, C.part, C.sl, C.call, C.callO, C.callS, C.callK, C.popOwn, C.walk, C.iter, C.range1, C.range2, C.seqOf, C.enum, C.zip2, C.tgName, C.tgNil, C.tgCons, C.tgTup, C.yes, chk, binOp, cmpOp, cmpI, List.getElem?_cons, s1, s2, opList, ht, S.forL, C.number, line]
    · have ht : truth (.list ((ns.take 3).map .int)) = some true := by
        cases hns : ns with
        | nil => rw [hns] at h3; simp at h3
        | cons => rfl
      have loop := forL_inv (g := C.tgTup (C.tgCons (C.tgName 3) (C.tgCons (C.tgName 4) C.tgNil))) (b := b_law_cells_1 k)
        (ds := C.number 0 ((ns.drop 3).map .int))
        (fun i ρ => ∃ (cs : List Int) (x3 x4 x5 : SV), cs.length = 3 ∧ ρ = [.val (.list (ns.map .int)), .val (.int 3), .own (cs.map .int), x3, x4, x5])
        (fun i d hd ρ ⟨cs, x3, x4, x5, hcs, e⟩ => by
          rw [number_get, List.getElem?_map] at hd
          obtain ⟨d1, hd1, rfl⟩ := Option.map_eq_some_iff.mp hd
          obtain ⟨g, hg, rfl⟩ := Option.map_eq_some_iff.mp hd1
          subst e
          have hi : i < 60 := by
            have := (List.getElem?_eq_some_iff.mp hg).1
            rw [List.length_drop] at this
            omega
          have m0 : (0 : Int) ≤ (i : Int) % 3 := by omega
          have m1 : (i : Int) % 3 < (cs.map PyData.int).length := by rw [List.length_map, hcs]; omega
          obtain ⟨x, hx1, hx2⟩ := atI_lt m0 m1
          rw [List.getElem?_map] at hx1
          obtain ⟨y, hy, rfl⟩ := Option.map_eq_some_iff.mp hx1
          refine ⟨[.val (.list (ns.map .int)), .val (.int 3), .own (cs.map .int), .val (.int i), .val (.int g), x5], [.val (.list (ns.map .int)), .val (.int 3), .own ((cs.set ((i : Int) % 3).toNat (y + g * (i + 2))).map .int), .val (.int i), .val (.int g), .val (.int ((i : Int) % 3))], ?_, ?_, _, _, _, _, by rw [List.length_set]; exact hcs, rfl⟩
          · simp [runDef, S.seq, S.skip, S.brk, S.cont, S.ite, S.asg, S.asgG, S.par, S.svOf, S.setItem, S.append, S.drop, S.aug, S.ret, S.retN, S.for_, C.const, C.varV, C.var, C.un1, C.bin, C.cmp, C.chain, C.ofT, C.test, C.not, C.and, C.or, C.andV, C.orV, C.ifx, C.nil, C.cons, C.star, C.tup, C.lst, C.repL, C.subOwn, C.lenOwn, C.noPart, C.part, C.sl, C.call, C.callO, C.callS, C.callK, C.popOwn, C.walk, C.iter, C.range1, C.range2, C.seqOf, C.enum, C.zip2, C.tgName, C.tgNil, C.tgCons, C.tgTup, C.yes, chk, binOp, cmpOp, cmpI, List.getElem?_cons]
          · have hix := ixN_lt m0 m1
            rw [List.length_map] at hix
            simp [b_law_cells_1, runDef, S.seq, S.skip, S.brk, S.cont, S.ite, S.asg, S.asgG, S.par, S.svOf, S.setItem, S.append, S.drop, S.aug, S.ret, S.retN, S.for_, C.const, C.varV, C.var, C.un1, C.bin, C.cmp, C.chain, C.ofT, C.test, C.not, C.and, C.or, C.andV, C.orV, C.ifx, C.nil, C.cons, C.star, C.tup, C.lst, C.repL, C.subOwn, C.lenOwn, C.noPart, C.part, C.sl, C.call, C.callO, C.callS, C.callK, C.popOwn, C.walk, C.iter, C.range1, C.range2, C.seqOf, C.enum, C.zip2, C.tgName, C.tgNil, C.tgCons, C.tgTup, C.yes, chk, binOp, cmpOp, cmpI, List.getElem?_cons, opInt, opMod, opMul, opAdd, hx2, f2 i hi, hix, List.map_set])
        (ρ := [.val (.list (ns.map .int)), .val (.int 3), .own ((ns.take 3).map .int), .un, .un, .un]) ⟨ns.take 3, .un, .un, .un, hcl, rfl⟩
      obtain ⟨ρ', e1, cs, x3, x4, x5, hcs, e2⟩ := loop
      subst e2
      refine ⟨cs, ?_, by omega, by omega⟩
      generalize (ns.take 3).map PyData.int = A at *
      generalize (ns.drop 3).map PyData.int = B at *
      generalize ns.map PyData.int = N at *
      simp [z_law_cells, runDef, S.seq, S.skip, S.brk, S.cont, S.ite, S.asg, S.asgG, S.par, S.svOf, S.setItem, S.append, S.drop, S.aug, S.ret, S.retN, S.for_, C.const, C.varV, C.var, C.un1, C.bin, C.cmp, C.chain, C.ofT, C.test, C.not, C.and, C.or, C.andV, C.orV, C.ifx, C.nil, C.cons, C.star, C.tup, C.lst, C.repL, C.subOwn, C.lenOwn, C.noPart, C.part, C.sl, C.call, C.callO, C.callS, C.callK, C.popOwn, C.walk, C.iter, C.range1, C.range2, C.seqOf, C.enum, C.zip2, C.tgName, C.tgNil, C.tgCons, C.tgTup, C.yes, chk, binOp, cmpOp, cmpI, List.getElem?_cons, s1, s2, opList, ht, e1]
end K86

set_option maxRecDepth 100000
set_option maxHeartbeats 4000000
/-! The plain law, part 3: flats. -/
namespace K86
open PySem PySem.Spec L2 Dl
open PyProof.Rows hiding St
/-! ### sorting what is encoded -/
theorem perm_map {α : Type} {enc : α → Dl.D} : ∀ {l : List Dl.D} {fs : List α}, l.Perm (fs.map enc) → ∃ gs : List α, gs.Perm fs ∧ l = gs.map enc
  | [], fs, h => by
    have := h.length_eq
    cases fs with
    | nil => exact ⟨[], List.Perm.refl _, rfl⟩
    | cons => simp at this
  | d :: l, fs, h => by
    have hm : d ∈ fs.map enc := h.mem_iff.mp List.mem_cons_self
    obtain ⟨a, ha, rfl⟩ := List.mem_map.mp hm
    obtain ⟨s, t, rfl⟩ := List.append_of_mem ha
    have p : (s ++ a :: t).Perm (a :: (s ++ t)) := List.perm_middle
    have h2 : (enc a :: l).Perm (enc a :: (s ++ t).map enc) := h.trans (p.map enc)
    obtain ⟨gs, g1, rfl⟩ := perm_map (List.Perm.cons_inv h2)
    exact ⟨a :: gs, (g1.cons a).trans p.symm, rfl⟩
theorem sort_map {α : Type} {enc : α → Dl.D} (fs : List α) : ∃ gs : List α, gs.Perm fs ∧ isort (fs.map enc) = gs.map enc := perm_map (isort_perm _)
theorem sortB_map {α : Type} {enc : α → Dl.D} {fs : List α} (hl : fs.length ≤ line) (h1 : ∀ a ∈ fs, ∀ b ∈ fs, PySem.W.alike (enc a) (enc b) = true) (h2 : ∀ a ∈ fs, isTupC (enc a) = true) (h3 : ∀ a ∈ fs, (enc a).depth ≤ 64) : sortB (fs.map enc) = true := by
  unfold sortB
  have e1 : ((fs.map enc).all fun d => (fs.map enc).all fun e => PySem.W.alike d e) = true := by
    rw [List.all_eq_true]; intro d hd
    rw [List.all_eq_true]; intro e he
    obtain ⟨a, ha, rfl⟩ := List.mem_map.mp hd
    obtain ⟨b, hb, rfl⟩ := List.mem_map.mp he
    exact h1 a ha b hb
  have e2 : (fs.map enc).all isTupC = true := by
    rw [List.all_eq_true]; intro d hd
    obtain ⟨a, ha, rfl⟩ := List.mem_map.mp hd
    exact h2 a ha
  have e3 : ((fs.map enc).all fun d => decide (d.depth ≤ 64)) = true := by
    rw [List.all_eq_true]; intro d hd
    obtain ⟨a, ha, rfl⟩ := List.mem_map.mp hd
    exact decide_eq_true (h3 a ha)
  rw [e1, e2, e3, List.length_map, decide_eq_true hl]
  rfl
/-! ### areas -/
structure Ar where
  t : Str
  l : Int
  u : Int
  r : Int
  b : Int
def encA (a : Ar) : Dl.D := .tuple [.str a.t, .int a.l, .int a.u, .int a.r, .int a.b]
def okA (a : Ar) : Prop := 0 ≤ a.l ∧ a.l ≤ 12 ∧ 0 ≤ a.u ∧ a.u ≤ 12 ∧ 0 ≤ a.r ∧ a.r ≤ 12 ∧ 0 ≤ a.b ∧ a.b ≤ 12
theorem line_small {n : Nat} (h : n < 1000) : n ≤ line := by unfold line; omega
theorem sortB_A (fs : List Ar) (hl : fs.length ≤ line) : sortB (fs.map encA) = true :=
  sortB_map hl (fun a _ b _ => by simp [encA, PySem.W.alike, PySem.W.alikeAll]) (fun a _ => rfl) fun a _ => by simp [encA, PyData.depth, PyData.depthAll]
abbrev okS (z : Str) : Prop := PyData.strOk z = true
theorem shp_str {z : Str} (h : okS z) : shp (.str z) = true := by
  unfold shp SeqAt.shaped
  simp [PyData.canLay0, PyData.depth, h]
theorem eqv_str (x y : Str) : PyData.eqv (.str x) (.str y) = decide (x = y) := by
  by_cases h : x = y
  · subst h; simp [PyData.eqv]
  · have : (x == y) = false := beq_eq_false_iff_ne.mpr h
    simp [PyData.eqv, this, h]
theorem eq_str {x y : Str} (hx : okS x) (hy : okS y) : opEq (.str x) (.str y) = some (decide (x = y)) := by
  unfold opEq
  rw [shp_str hx, shp_str hy, eqv_str]
  rfl
theorem ok_level : okS "level" := by decide +kernel
theorem ok_upright : okS "upright" := by decide +kernel
def cutL (a : Ar) (way : Bool) (spot : Int) (news : Str) : List Ar := if way then [⟨a.t, a.l, a.u, a.r, spot⟩, ⟨news, a.l, spot, a.r, a.b⟩] else [⟨a.t, a.l, a.u, spot, a.b⟩, ⟨news, spot, a.u, a.r, a.b⟩]
def splitL (tag : Str) (way : Bool) (spot : Int) (news : Str) (fs : List Ar) : List Ar := fs.flatMap fun a => if a.t = tag then cutL a way spot news else [a]
def wayS (way : Bool) : Str := if way then "level" else "upright"
theorem split_ok (k : Nat) (fs : List Ar) (tag news : Str) (way : Bool) (spot : Int) (hl : fs.length ≤ 1000) (ht0 : okS tag) (hf : ∀ a ∈ fs, okS a.t) :
    ∃ gs : List Ar, gs.Perm (splitL tag way spot news fs) ∧ (I_law_split (k + 1)).sem [] [.tuple (fs.map encA), .str tag, .str (wayS way), .int spot, .str news] = some (.tuple (gs.map encA), []) := by
  rw [sem_law_split]
  have hlen : ∀ l : List Ar, (splitL tag way spot news l).length ≤ 2 * l.length := fun l => by
    induction l with
    | nil => simp [splitL]
    | cons a r ih =>
      unfold splitL at ih ⊢
      rw [List.flatMap_cons, List.length_append, List.length_cons]
      have : (if a.t = tag then cutL a way spot news else [a]).length ≤ 2 := by
        unfold cutL
        split
        · split <;> simp
        · simp
      omega
  have loop := forL_inv (g := C.tgName 6) (b := b_law_split_1 k) (ds := fs.map encA)
    (fun i ρ => ∃ x6, ρ = [.val (.tuple (fs.map encA)), .val (.str tag), .val (.str (wayS way)), .val (.int spot), .val (.str news), .own ((splitL tag way spot news (fs.take i)).map encA), x6])
    (fun i d hd ρ ⟨x6, e⟩ => by
      rw [List.getElem?_map] at hd
      obtain ⟨a, ha, rfl⟩ := Option.map_eq_some_iff.mp hd
      subst e
      have hil : i < fs.length := (List.getElem?_eq_some_iff.mp ha).1
      have ht : fs.take (i + 1) = fs.take i ++ [a] := by
        rw [List.take_add_one, ha]; rfl
      have hs : splitL tag way spot news (fs.take (i + 1)) = splitL tag way spot news (fs.take i) ++ (if a.t = tag then cutL a way spot news else [a]) := by
        rw [ht]
        unfold splitL
        rw [List.flatMap_append]
        simp
      have hsl : (splitL tag way spot news (fs.take i)).length ≤ 2 * fs.length := Nat.le_trans (hlen _) (by rw [List.length_take]; omega)
      have hlt : (splitL tag way spot news (fs.take i)).length < line := by unfold line; omega
      have hlt2 : (splitL tag way spot news (fs.take i)).length + 2 ≤ line := by unfold line; omega
      rw [hs]
      generalize splitL tag way spot news (fs.take i) = acc at *
      generalize fs.map encA = FS at *
      refine ⟨[.val (.tuple FS), .val (.str tag), .val (.str (wayS way)), .val (.int spot), .val (.str news), .own (acc.map encA), .val (encA a)], _, rfl, ?_, .val (encA a), rfl⟩
      have i0 : item (encA a) (.int 0) = some (.str a.t) := rfl
      have i1 : item (encA a) (.int 1) = some (.int a.l) := rfl
      have c4 : slice (encA a) none (some 4) = some (.tuple [.str a.t, .int a.l, .int a.u, .int a.r]) := rfl
      have c3 : slice (encA a) none (some 3) = some (.tuple [.str a.t, .int a.l, .int a.u]) := rfl
      have d3 : slice (encA a) (some 3) none = some (.tuple [.int a.r, .int a.b]) := rfl
      have d4 : slice (encA a) (some 4) none = some (.tuple [.int a.b]) := rfl
      have d2 : slice (encA a) (some 2) none = some (.tuple [.int a.u, .int a.r, .int a.b]) := rfl
      have hw1 : ¬ ("upright" : Str) = ("level" : Str) := by decide
      have hat : okS a.t := hf a (List.mem_of_getElem? ha)
      have q1 := eq_str hat ht0
      have q2 := eq_str ok_level ok_level
      have q3 := eq_str ok_upright ok_level
      have hc1 : (cutL a true spot news).map encA = [.tuple [.str a.t, .int a.l, .int a.u, .int a.r, .int spot], .tuple [.str news, .int a.l, .int spot, .int a.r, .int a.b]] := rfl
      have hc2 : (cutL a false spot news).map encA = [.tuple [.str a.t, .int a.l, .int a.u, .int spot, .int a.b], .tuple [.str news, .int spot, .int a.u, .int a.r, .int a.b]] := rfl
      by_cases h : a.t = tag
      · rw [← h] at q1 ⊢
        have hne : (if a.t = a.t then cutL a way spot news else [a]) = cutL a way spot news := if_pos rfl
        rw [hne]
        clear hs hlen h
        cases way with
        | true => simp [b_law_split_1, runDef, S.seq, S.skip, S.brk, S.cont, S.ite, S.asg, S.asgG, S.par, S.svOf, S.setItem, S.append, S.drop, S.aug, S.ret, S.retN, S.for_, C.const, C.varV, C.var, C.un1, C.bin, C.cmp, C.chain, C.ofT, C.test, C.not, C.and, C.or, C.andV, C.orV, C.ifx, C.nil, C.cons, C.star, C.tup, C.lst, C.repL, C.subOwn, C.lenOwn, C.noPart, C.part, C.sl, C.call, C.callO, C.callS, C.callK, C.popOwn, C.walk, C.iter, C.range1, C.range2, C.seqOf, C.enum, C.zip2, C.tgName, C.tgNil, C.tgCons, C.tgTup, C.yes, chk, binOp, cmpOp, cmpI, List.getElem?_cons, i0, i1, q1, q2, wayS, c4, d3, opAdd, hlt2, line_small, hc1]
        | false => simp [b_law_split_1, runDef, S.seq, S.skip, S.brk, S.cont, S.ite, S.asg, S.asgG, S.par, S.svOf, S.setItem, S.append, S.drop, S.aug, S.ret, S.retN, S.for_, C.const, C.varV, C.var, C.un1, C.bin, C.cmp, C.chain, C.ofT, C.test, C.not, C.and, C.or, C.andV, C.orV, C.ifx, C.nil, C.cons, C.star, C.tup, C.lst, C.repL, C.subOwn, C.lenOwn, C.noPart, C.part, C.sl, C.call, C.callO, C.callS, C.callK, C.popOwn, C.walk, C.iter, C.range1, C.range2, C.seqOf, C.enum, C.zip2, C.tgName, C.tgNil, C.tgCons, C.tgTup, C.yes, chk, binOp, cmpOp, cmpI, List.getElem?_cons, i0, i1, q1, q3, hw1, wayS, c3, d4, d2, opAdd, hlt2, line_small, hc2]
      · simp [b_law_split_1, runDef, S.seq, S.skip, S.brk, S.cont, S.ite, S.asg, S.asgG, S.par, S.svOf, S.setItem, S.append, S.drop, S.aug, S.ret, S.retN, S.for_, C.const, C.varV, C.var, C.un1, C.bin, C.cmp, C.chain, C.ofT, C.test, C.not, C.and, C.or, C.andV, C.orV, C.ifx, C.nil, C.cons, C.star, C.tup, C.lst, C.repL, C.subOwn, C.lenOwn, C.noPart, C.part, C.sl, C.call, C.callO, C.callS, C.callK, C.popOwn, C.walk, C.iter, C.range1, C.range2, C.seqOf, C.enum, C.zip2, C.tgName, C.tgNil, C.tgCons, C.tgTup, C.yes, chk, binOp, cmpOp, cmpI, List.getElem?_cons, i0, q1, h, hlt])
    (ρ := [.val (.tuple (fs.map encA)), .val (.str tag), .val (.str (wayS way)), .val (.int spot), .val (.str news), .own [], .un]) ⟨.un, rfl⟩
  obtain ⟨ρ', e1, x6, e2⟩ := loop
  subst e2
  rw [List.length_map, List.take_length] at e1
  have hl2 := hlen fs
  obtain ⟨gs, p, hgs⟩ := sort_map (enc := encA) (splitL tag way spot news fs)
  refine ⟨gs, p, ?_⟩
  have hsb := sortB_A (splitL tag way spot news fs) (by unfold line; omega)
  have hso : opSorted (.list ((splitL tag way spot news fs).map encA)) = some (.list (gs.map encA)) := by
    show chk _ _ = _
    rw [hsb, hgs]
    rfl
  generalize (splitL tag way spot news fs).map encA = A at *
  generalize fs.map encA = FS at *
  simp [z_law_split, runDef, S.seq, S.skip, S.brk, S.cont, S.ite, S.asg, S.asgG, S.par, S.svOf, S.setItem, S.append, S.drop, S.aug, S.ret, S.retN, S.for_, C.const, C.varV, C.var, C.un1, C.bin, C.cmp, C.chain, C.ofT, C.test, C.not, C.and, C.or, C.andV, C.orV, C.ifx, C.nil, C.cons, C.star, C.tup, C.lst, C.repL, C.subOwn, C.lenOwn, C.noPart, C.part, C.sl, C.call, C.callO, C.callS, C.callK, C.popOwn, C.walk, C.iter, C.range1, C.range2, C.seqOf, C.enum, C.zip2, C.tgName, C.tgNil, C.tgCons, C.tgTup, C.yes, chk, binOp, cmpOp, cmpI, List.getElem?_cons, e1, hso, opTuple, line_small]
end K86

set_option maxRecDepth 100000
set_option maxHeartbeats 4000000
/-! The plain law, part 4: no four areas at one spot; flats. -/
namespace K86
open PySem PySem.Spec L2 Dl
open PyProof.Rows hiding St
theorem canAll_eq : ∀ ds : List Dl.D, PyData.canLayAll0 ds = ds.all PyData.canLay0
  | [] => rfl
  | d :: ds => by
    rw [List.all_cons, ← canAll_eq ds]
    rfl
theorem depthAll_le {n : Nat} : ∀ {ds : List Dl.D}, (∀ d ∈ ds, d.depth ≤ n) → PyData.depthAll ds ≤ n
  | [], _ => Nat.zero_le _
  | d :: ds, h => by
    show max d.depth (PyData.depthAll ds) ≤ n
    exact Nat.max_le.mpr ⟨h d List.mem_cons_self, depthAll_le fun x hx => h x (List.mem_cons_of_mem _ hx)⟩
theorem shp_list {ds : List Dl.D} (h : ∀ d ∈ ds, d.canLay0 = true ∧ d.depth ≤ 63) : shp (.list ds) = true := by
  unfold shp SeqAt.shaped
  have e1 : (PyData.list ds).canLay0 = true := by
    show PyData.canLayAll0 ds = true
    rw [canAll_eq, List.all_eq_true]
    exact fun d hd => (h d hd).1
  have e2 : (PyData.list ds).depth ≤ 64 := Nat.succ_le_succ (depthAll_le fun d hd => (h d hd).2)
  rw [e1, decide_eq_true e2]
  rfl
theorem shp_tup {ds : List Dl.D} (h : ∀ d ∈ ds, d.canLay0 = true ∧ d.depth ≤ 63) : shp (.tuple ds) = true := by
  unfold shp SeqAt.shaped
  have e1 : (PyData.tuple ds).canLay0 = true := by
    show PyData.canLayAll0 ds = true
    rw [canAll_eq, List.all_eq_true]
    exact fun d hd => (h d hd).1
  have e2 : (PyData.tuple ds).depth ≤ 64 := Nat.succ_le_succ (depthAll_le fun d hd => (h d hd).2)
  rw [e1, decide_eq_true e2]
  rfl
def encP (p : Int × Int) : Dl.D := .tuple [.int p.1, .int p.2]
theorem P_can (p : Int × Int) : (encP p).canLay0 = true ∧ (encP p).depth ≤ 63 := by
  simp [encP, PyData.canLay0, PyData.canLayAll0, PyData.depth, PyData.depthAll]
theorem shpP (p : Int × Int) : shp (encP p) = true := by
  refine shp_tup fun d hd => ?_
  simp at hd
  rcases hd with rfl | rfl <;> simp [PyData.canLay0, PyData.depth]
theorem shpPs (ps : List (Int × Int)) : shp (.list (ps.map encP)) = true := shp_list fun d hd => by
  obtain ⟨p, _, rfl⟩ := List.mem_map.mp hd
  exact P_can p
def cornersL (fs : List Ar) : List (Int × Int) := fs.flatMap fun a => [(a.l, a.u), (a.r, a.u), (a.l, a.b), (a.r, a.b)]
theorem corners_len (l : List Ar) : (cornersL l).length = 4 * l.length := by
  induction l with
  | nil => rfl
  | cons a r ih =>
    unfold cornersL at ih ⊢
    rw [List.flatMap_cons, List.length_append, List.length_cons, ih]
    simp
    omega
theorem no_cross_ok (k : Nat) (fs : List Ar) (hl : fs.length ≤ 1000) : ∃ b : Bool, (I_law_no_cross (k + 1)).sem [] [.tuple (fs.map encA)] = some (.bool b, []) := by
  rw [sem_law_no_cross]
  have loop := forL_inv (g := C.tgName 2) (b := b_law_no_cross_1 k) (ds := fs.map encA)
    (fun i ρ => ∃ x2, ρ = [.val (.tuple (fs.map encA)), .own ((cornersL (fs.take i)).map encP), .val x2] ∨ ρ = [.val (.tuple (fs.map encA)), .own ((cornersL (fs.take i)).map encP), .un])
    (fun i d hd ρ ⟨x2, e⟩ => by
      rw [List.getElem?_map] at hd
      obtain ⟨a, ha, rfl⟩ := Option.map_eq_some_iff.mp hd
      have hil : i < fs.length := (List.getElem?_eq_some_iff.mp ha).1
      have ht : fs.take (i + 1) = fs.take i ++ [a] := by
        rw [List.take_add_one, ha]; rfl
      have hs : (cornersL (fs.take (i + 1))).map encP = (cornersL (fs.take i)).map encP ++ [.tuple [.int a.l, .int a.u], .tuple [.int a.r, .int a.u], .tuple [.int a.l, .int a.b], .tuple [.int a.r, .int a.b]] := by
        rw [ht]
        unfold cornersL
        rw [List.flatMap_append, List.map_append]
        rfl
      have hsl : ((cornersL (fs.take i)).map encP).length ≤ 4 * fs.length := by rw [List.length_map, corners_len, List.length_take]; omega
      rw [hs]
      generalize (cornersL (fs.take i)).map encP = A at *
      have hlt2 : A.length + 4 ≤ line := by unfold line; omega
      have i1 : item (encA a) (.int 1) = some (.int a.l) := rfl
      have i2 : item (encA a) (.int 2) = some (.int a.u) := rfl
      have i3 : item (encA a) (.int 3) = some (.int a.r) := rfl
      have i4 : item (encA a) (.int 4) = some (.int a.b) := rfl
      generalize fs.map encA = FS at *
      have st : ∀ y : SV, C.tgName 2 (encA a) [.val (.tuple FS), .own A, y] = some [.val (.tuple FS), .own A, .val (encA a)] := fun y => rfl
      have bd : b_law_no_cross_1 k [.val (.tuple FS), .own A, .val (encA a)] = some (.nx, [.val (.tuple FS), .own (A ++ [.tuple [.int a.l, .int a.u], .tuple [.int a.r, .int a.u], .tuple [.int a.l, .int a.b], .tuple [.int a.r, .int a.b]]), .val (encA a)]) := by
        simp [b_law_no_cross_1, runDef, S.seq, S.skip, S.brk, S.cont, S.ite, S.asg, S.asgG, S.par, S.svOf, S.setItem, S.append, S.drop, S.aug, S.ret, S.retN, S.for_, C.const, C.varV, C.var, C.un1, C.bin, C.cmp, C.chain, C.ofT, C.test, C.not, C.and, C.or, C.andV, C.orV, C.ifx, C.nil, C.cons, C.star, C.tup, C.lst, C.repL, C.subOwn, C.lenOwn, C.noPart, C.part, C.sl, C.call, C.callO, C.callS, C.callK, C.popOwn, C.walk, C.iter, C.range1, C.range2, C.seqOf, C.enum, C.zip2, C.tgName, C.tgNil, C.tgCons, C.tgTup, C.yes, chk, binOp, cmpOp, cmpI, List.getElem?_cons, i1, i2, i3, i4, opAdd, hlt2, line_small]
      rcases e with rfl | rfl
      · exact ⟨_, _, st _, bd, encA a, .inl rfl⟩
      · exact ⟨_, _, st _, bd, encA a, .inl rfl⟩)
    (ρ := [.val (.tuple (fs.map encA)), .own [], .un]) ⟨.none, .inr rfl⟩
  obtain ⟨ρ', e1, x2, e2⟩ := loop
  rw [List.length_map, List.take_length] at e2
  have hcl := corners_len fs
  have hsh := shpPs (cornersL fs)
  have hcan : ∀ d ∈ (cornersL fs).map encP, d.canLay0 = true ∧ d.depth ≤ 63 := fun d hd => by
    obtain ⟨p, _, rfl⟩ := List.mem_map.mp hd
    exact P_can p
  have hshd : ∀ d ∈ (cornersL fs).map encP, shp d = true := fun d hd => by
    obtain ⟨p, _, rfl⟩ := List.mem_map.mp hd
    exact shpP p
  have hlen : ((cornersL fs).map encP).length ≤ line := by rw [List.length_map, hcl]; unfold line; omega
  generalize (cornersL fs).map encP = A at *
  generalize fs.map encA = FS at *
  -- the list of the spots where four meet
  have lc : ∀ y : SV, C.notOwn (some y) = true → ∃ ys : List Dl.D, (∀ d ∈ ys, d ∈ A) ∧ ∃ ρ9, l_law_no_cross_1 k [.val (.tuple FS), .own A, y] = some (.list ys, ρ9) := fun y hy => by
    refine ⟨A.filterMap fun d => if decide (3 < ((A.countP fun z => PyData.eqv z d : Nat) : Int)) = true then some d else none, fun d hd => ?_, _, lc_eq (ρ1 := [.val (.tuple FS), .val (.list A), y]) _ ?_ ?_ hlen fun d hd => ?_⟩
    · obtain ⟨x, hx, hf⟩ := List.mem_filterMap.mp hd
      split at hf
      · cases hf; exact hx
      · cases hf
    · simp [runDef, S.seq, S.skip, S.brk, S.cont, S.ite, S.asg, S.asgG, S.par, S.svOf, S.setItem, S.append, S.drop, S.aug, S.ret, S.retN, S.for_, C.const, C.varV, C.var, C.un1, C.bin, C.cmp, C.chain, C.ofT, C.test, C.not, C.and, C.or, C.andV, C.orV, C.ifx, C.nil, C.cons, C.star, C.tup, C.lst, C.repL, C.subOwn, C.lenOwn, C.noPart, C.part, C.sl, C.call, C.callO, C.callS, C.callK, C.popOwn, C.walk, C.iter, C.range1, C.range2, C.seqOf, C.enum, C.zip2, C.tgName, C.tgNil, C.tgCons, C.tgTup, C.yes, chk, binOp, cmpOp, cmpI, List.getElem?_cons]
    · simp [hy]
    · refine ⟨[.val (.tuple FS), .val (.list A), .val d], ?_, rfl⟩
      have hc : opCount (.list A) d = some (.int (A.countP fun z => PyData.eqv z d : Nat)) := by
        show (match shp d && shp (.list A) with | true => some (PyData.int (A.countP fun z => PyData.eqv z d : Nat)) | false => none) = _
        rw [hshd d hd, hsh]
        rfl
      cases hb : decide (3 < ((A.countP fun z => PyData.eqv z d : Nat) : Int)) with
      | true => simp [C.lcTurn, C.wipeR, runDef, S.seq, S.skip, S.brk, S.cont, S.ite, S.asg, S.asgG, S.par, S.svOf, S.setItem, S.append, S.drop, S.aug, S.ret, S.retN, S.for_, C.const, C.varV, C.var, C.un1, C.bin, C.cmp, C.chain, C.ofT, C.test, C.not, C.and, C.or, C.andV, C.orV, C.ifx, C.nil, C.cons, C.star, C.tup, C.lst, C.repL, C.subOwn, C.lenOwn, C.noPart, C.part, C.sl, C.call, C.callO, C.callS, C.callK, C.popOwn, C.walk, C.iter, C.range1, C.range2, C.seqOf, C.enum, C.zip2, C.tgName, C.tgNil, C.tgCons, C.tgTup, C.yes, chk, binOp, cmpOp, cmpI, List.getElem?_cons, hc, hb]
      | false => simp [C.lcTurn, C.wipeR, runDef, S.seq, S.skip, S.brk, S.cont, S.ite, S.asg, S.asgG, S.par, S.svOf, S.setItem, S.append, S.drop, S.aug, S.ret, S.retN, S.for_, C.const, C.varV, C.var, C.un1, C.bin, C.cmp, C.chain, C.ofT, C.test, C.not, C.and, C.or, C.andV, C.orV, C.ifx, C.nil, C.cons, C.star, C.tup, C.lst, C.repL, C.subOwn, C.lenOwn, C.noPart, C.part, C.sl, C.call, C.callO, C.callS, C.callK, C.popOwn, C.walk, C.iter, C.range1, C.range2, C.seqOf, C.enum, C.zip2, C.tgName, C.tgNil, C.tgCons, C.tgTup, C.yes, chk, binOp, cmpOp, cmpI, List.getElem?_cons, hc, hb]
  have fin : ∀ y : SV, C.notOwn (some y) = true → S.for_ (C.iter (C.var 0)) (C.tgName 2) (b_law_no_cross_1 k) [.val (.tuple FS), .own [], .un] = some (.nx, [.val (.tuple FS), .own A, y]) → ∃ b : Bool, runDef false 1 3 (z_law_no_cross k) [] [.tuple FS] = some (.bool b, []) := fun y hy hfor => by
    obtain ⟨ys, hy1, ρ9, hl9⟩ := lc y hy
    have hshy : shp (.list ys) = true := shp_list fun d hd => hcan d (hy1 d hd)
    have he : ∃ b, opEq (.list ys) (.list []) = some b := by
      refine ⟨PyData.eqv (.list ys) (.list []), ?_⟩
      unfold opEq
      rw [hshy]
      rfl
    obtain ⟨b, he⟩ := he
    refine ⟨b, ?_⟩
    simp only [S.for_] at hfor
    simp [z_law_no_cross, runDef, S.seq, S.asg, S.svOf, S.for_, S.ret, C.lst, C.nil, chk, line_small, hfor]
    simp [C.ofT, C.cmp, C.lst, C.nil, chk, line_small, hl9, cmpOp, he]
  rcases e2 with rfl | rfl
  · exact fin (.val x2) rfl (by simp [S.for_, C.iter, C.var, C.walk, e1])
  · exact fin .un rfl (by simp [S.for_, C.iter, C.var, C.walk, e1])
end K86

set_option maxRecDepth 100000
set_option maxHeartbeats 4000000
/-! The plain law, part 5: flats. -/
namespace K86
open PySem PySem.Spec L2 Dl
open PyProof.Rows hiding St
structure FL (tags : List Str) (fs : List Ar) : Prop where
  ne : fs ≠ []
  ok : ∀ a ∈ fs, okA a
  nd : (fs.map Ar.t).Nodup
  sub : ∀ a ∈ fs, a.t ∈ tags
theorem nodup_len {α : Type} [DecidableEq α] : ∀ {l m : List α}, l.Nodup → (∀ x ∈ l, x ∈ m) → l.length ≤ m.length
  | [], _, _, _ => Nat.zero_le _
  | x :: r, m, h, s => by
    obtain ⟨h1, h2⟩ := List.nodup_cons.mp h
    have hx := s x List.mem_cons_self
    have : r.length ≤ (m.erase x).length := nodup_len h2 fun y hy => by
      have hne : y ≠ x := fun z => h1 (z ▸ hy)
      exact (List.mem_erase_of_ne hne).mpr (s y (List.mem_cons_of_mem _ hy))
    rw [List.length_erase_of_mem hx] at this
    have := List.length_pos_of_mem hx
    rw [List.length_cons]
    omega
theorem FL.len {tags : List Str} {fs : List Ar} (h : FL tags fs) : fs.length ≤ tags.length := by
  have := nodup_len (m := tags) h.nd fun x hx => by
    obtain ⟨a, ha, rfl⟩ := List.mem_map.mp hx
    exact h.sub a ha
  rwa [List.length_map] at this
theorem split_names {tag news : Str} {way : Bool} {spot : Int} : ∀ {fs : List Ar}, (fs.map Ar.t).Nodup → news ∉ fs.map Ar.t → ((splitL tag way spot news fs).map Ar.t).Nodup ∧ (∀ x ∈ (splitL tag way spot news fs).map Ar.t, x ∈ fs.map Ar.t ∨ (x = news ∧ tag ∈ fs.map Ar.t))
  | [], _, _ => ⟨List.nodup_nil, fun x hx => by simp [splitL] at hx⟩
  | a :: r, h, hn => by
    obtain ⟨h1, h2⟩ := List.nodup_cons.mp (show (a.t :: r.map Ar.t).Nodup from h)
    have hn2 : news ∉ r.map Ar.t := fun z => hn (List.mem_cons_of_mem _ z)
    have hn1 : a.t ≠ news := fun z => hn (by rw [← z]; exact List.mem_cons_self)
    obtain ⟨i1, i2⟩ := split_names (tag := tag) (news := news) (way := way) (spot := spot) h2 hn2
    have e : (splitL tag way spot news (a :: r)).map Ar.t = (if a.t = tag then [a.t, news] else [a.t]) ++ (splitL tag way spot news r).map Ar.t := by
      unfold splitL
      rw [List.flatMap_cons, List.map_append]
      congr 1
      by_cases z : a.t = tag
      · rw [if_pos z, if_pos z]
        unfold cutL
        cases way <;> rfl
      · rw [if_neg z, if_neg z]
        rfl
    rw [e]
    by_cases z : a.t = tag
    · have nt : tag ∉ r.map Ar.t := fun w => h1 (z ▸ w)
      have nm : ∀ x ∈ (splitL tag way spot news r).map Ar.t, x ∈ r.map Ar.t := fun x hx => (i2 x hx).elim id fun w => absurd w.2 nt
      rw [if_pos z]
      refine ⟨List.nodup_cons.mpr ⟨fun w => ?_, List.nodup_cons.mpr ⟨fun w => hn2 (nm _ w), i1⟩⟩, fun x hx => ?_⟩
      · rcases List.mem_cons.mp w with w | w
        · exact hn1 w
        · exact h1 (nm _ w)
      · rcases List.mem_cons.mp hx with w | w
        · exact .inl (by rw [w]; exact List.mem_cons_self)
        · rcases List.mem_cons.mp w with w | w
          · exact .inr ⟨w, by rw [← z]; exact List.mem_cons_self⟩
          · exact .inl (List.mem_cons_of_mem _ (nm x w))
    · rw [if_neg z]
      refine ⟨List.nodup_cons.mpr ⟨fun w => ?_, i1⟩, fun x hx => ?_⟩
      · rcases i2 _ w with w | w
        · exact h1 w
        · exact hn1 w.1
      · rcases List.mem_cons.mp hx with w | w
        · exact .inl (by rw [w]; exact List.mem_cons_self)
        · rcases i2 x w with w | w
          · exact .inl (List.mem_cons_of_mem _ w)
          · exact .inr ⟨w.1, List.mem_cons_of_mem _ w.2⟩
theorem split_mem {tag news : Str} {way : Bool} {spot : Int} {fs : List Ar} {x : Ar} (h : x ∈ splitL tag way spot news fs) : x ∈ fs ∨ ∃ a ∈ fs, a.t = tag ∧ x ∈ cutL a way spot news := by
  unfold splitL at h
  obtain ⟨a, ha, hx⟩ := List.mem_flatMap.mp h
  split at hx
  · rename_i z
    exact .inr ⟨a, ha, z, hx⟩
  · rw [List.mem_singleton.mp hx]
    exact .inl ha
theorem FL.split {tags : List Str} {fs gs : List Ar} {tag news : Str} {way : Bool} {spot : Int} (h : FL tags fs) (hn : news ∈ tags) (hnew : news ∉ fs.map Ar.t) (hs : 0 ≤ spot ∧ spot ≤ 12) (p : gs.Perm (splitL tag way spot news fs)) : FL tags gs := by
  obtain ⟨n1, n2⟩ := split_names (tag := tag) (way := way) (spot := spot) h.nd hnew
  refine ⟨fun z => ?_, fun a ha => ?_, (p.map Ar.t).nodup_iff.mpr n1, fun a ha => ?_⟩
  · subst z
    have := p.length_eq
    cases hf : fs with
    | nil => exact h.ne hf
    | cons a r =>
      rw [hf] at this
      unfold splitL at this
      rw [List.flatMap_cons, List.length_append] at this
      have h2 : 0 < (if a.t = tag then cutL a way spot news else [a]).length := by
        unfold cutL
        split
        · split <;> simp
        · simp
      simp at this
      omega
  · rcases split_mem (p.mem_iff.mp ha) with w | ⟨b, hb, _, w⟩
    · exact h.ok a w
    · have hk := h.ok b hb
      unfold okA at hk ⊢
      unfold cutL at w
      split at w
      · simp at w
        rcases w with rfl | rfl <;> simp <;> omega
      · simp at w
        rcases w with rfl | rfl <;> simp <;> omega
  · have hx : a.t ∈ (splitL tag way spot news fs).map Ar.t := List.mem_map.mpr ⟨a, p.mem_iff.mp ha, rfl⟩
    rcases n2 _ hx with w | w
    · obtain ⟨b, hb, e⟩ := List.mem_map.mp w
      rw [← e]; exact h.sub b hb
    · rw [w.1]; exact hn
/-! ### one lap -/
theorem opIn_strs {x : Str} {xs : List Str} (hx : okS x) (hxs : ∀ y ∈ xs, okS y) : opIn (.str x) (.list (xs.map .str)) = some (decide (x ∈ xs)) := by
  have h1 : shp (.list (xs.map .str)) = true := shp_list fun d hd => by
    obtain ⟨y, hy, rfl⟩ := List.mem_map.mp hd
    exact ⟨hxs y hy, Nat.zero_le _⟩
  show (match shp (.str x) && shp (.list (xs.map .str)) with | true => some ((xs.map PyData.str).any fun z => PyData.eqv z (.str x)) | false => none) = _
  rw [shp_str hx, h1]
  show some _ = some _
  congr 1
  rw [List.any_map]
  by_cases h : x ∈ xs
  · rw [decide_eq_true h, List.any_eq_true]
    exact ⟨x, h, by show PyData.eqv (.str x) (.str x) = true; rw [eqv_str]; simp⟩
  · rw [decide_eq_false h, List.any_eq_false]
    intro y hy
    show ¬ PyData.eqv (.str y) (.str x) = true
    rw [eqv_str]
    simp
    exact fun z => h (z ▸ hy)
theorem names_lc (k : Nat) (pre : Rho) (fs : List Ar) (hl : fs.length ≤ 1000) (hp : pre.length = 14) (h4 : pre[4]? = some (.val (.tuple (fs.map encA)))) (h12 : pre[12]? = some .un) : l_law_flat_1 k pre = some (.list ((fs.map Ar.t).map .str), pre) := by
  match pre, hp with
  | [a0, a1, a2, a3, a4, a5, a6, a7, a8, a9, a10, a11, a12, a13], _ =>
    simp at h4 h12
    subst h4 h12
    have e := lc_eq (vs := [12]) (it := C.iter (C.var 4)) (g := C.tgName 12) (t := C.yes) (e := C.subOwn 12 (C.const (.int 0))) (ρ := [a0, a1, a2, a3, .val (.tuple (fs.map encA)), a5, a6, a7, a8, a9, a10, a11, .un, a13]) (ρ1 := [a0, a1, a2, a3, .val (.tuple (fs.map encA)), a5, a6, a7, a8, a9, a10, a11, .un, a13]) (ds := fs.map encA)
      (fun d => match d with | .tuple (x :: _) => some x | _ => none) (by simp [runDef, S.seq, S.skip, S.brk, S.cont, S.ite, S.asg, S.asgG, S.par, S.svOf, S.setItem, S.append, S.drop, S.aug, S.ret, S.retN, S.for_, C.const, C.varV, C.var, C.un1, C.bin, C.cmp, C.chain, C.ofT, C.test, C.not, C.and, C.or, C.andV, C.orV, C.ifx, C.nil, C.cons, C.star, C.tup, C.lst, C.repL, C.subOwn, C.lenOwn, C.noPart, C.part, C.sl, C.call, C.callO, C.callS, C.callK, C.popOwn, C.walk, C.iter, C.range1, C.range2, C.seqOf, C.enum, C.zip2, C.tgName, C.tgNil, C.tgCons, C.tgTup, C.yes, chk, binOp, cmpOp, cmpI, List.getElem?_cons]) rfl (by rw [List.length_map]; unfold line; omega) (fun d hd => by
        obtain ⟨a, ha, rfl⟩ := List.mem_map.mp hd
        refine ⟨[a0, a1, a2, a3, .val (.tuple (fs.map encA)), a5, a6, a7, a8, a9, a10, a11, .val (encA a), a13], ?_, rfl⟩
        have i0 : item (encA a) (.int 0) = some (.str a.t) := rfl
        have hm : (match encA a with | .tuple (x :: _) => some x | _ => none) = some (.str a.t) := rfl
        rw [hm]
        simp [C.lcTurn, C.wipeR, runDef, S.seq, S.skip, S.brk, S.cont, S.ite, S.asg, S.asgG, S.par, S.svOf, S.setItem, S.append, S.drop, S.aug, S.ret, S.retN, S.for_, C.const, C.varV, C.var, C.un1, C.bin, C.cmp, C.chain, C.ofT, C.test, C.not, C.and, C.or, C.andV, C.orV, C.ifx, C.nil, C.cons, C.star, C.tup, C.lst, C.repL, C.subOwn, C.lenOwn, C.noPart, C.part, C.sl, C.call, C.callO, C.callS, C.callK, C.popOwn, C.walk, C.iter, C.range1, C.range2, C.seqOf, C.enum, C.zip2, C.tgName, C.tgNil, C.tgCons, C.tgTup, C.yes, chk, binOp, cmpOp, cmpI, List.getElem?_cons, i0])
    have h2 : (fs.map encA).filterMap (fun d => match d with | .tuple (x :: _) => some x | _ => none) = (fs.map Ar.t).map .str := by
      rw [List.filterMap_map, List.map_map]
      rw [← List.filterMap_eq_map]
      rfl
    rw [h2] at e
    exact e
end K86

set_option maxRecDepth 100000
set_option maxHeartbeats 4000000
/-! The plain law, part 6: one lap of a flat. -/
namespace K86
open PySem PySem.Spec L2 Dl
open PyProof.Rows hiding St
abbrev lapSt (os tags FS : List Dl.D) (tg : Str) (x5 x7 x8 x9 x10 x11 x13 : SV) : Rho :=
  [.own os, .val (.int 7), .val (.int 3), .val (.list tags), .val (.tuple FS), x5, .val (.str tg), x7, x8, x9, x10, x11, .un, x13]
theorem lap_ok (k : Nat) {tags : List Str} {fs : List Ar} {tg : Str} {os : List Dl.D} {n : Int} (hF : FL tags fs) (htg : tg ∈ tags) (hok : ∀ t ∈ tags, okS t) (htl : tags.length ≤ 1000) (hB : Box os n) (hn : n + 3 < big) (x5 x7 x8 x9 x10 x11 x13 : SV) :
    ∃ os' fs' x8' x9' x10' x11' x13', b_law_flat_1 (k + 2) (lapSt os (tags.map .str) (fs.map encA) tg x5 x7 x8 x9 x10 x11 x13) = some (.nx, lapSt os' (tags.map .str) (fs'.map encA) tg x5 x7 x8' x9' x10' x11' x13') ∧ FL tags fs' ∧ Box os' (n + 3) := by
  have hfl : fs.length ≤ 1000 := Nat.le_trans hF.len htl
  obtain ⟨r1, os1, m1, e1, hB1⟩ := of_ok k (xs := fs.map encA) (d := .tuple (fs.map encA)) hB (by omega) (by simp [hF.ne]) (by rw [List.length_map]; omega) (.inr rfl)
  obtain ⟨a, ha, rfl⟩ := List.mem_map.mp m1
  obtain ⟨r2, os2, m2, e2, hB2⟩ := of_ok k (xs := [.str "level", .str "upright"]) (d := .list [.str "level", .str "upright"]) hB1 (by omega) (by simp) (by simp) (.inl rfl)
  obtain ⟨way, rfl⟩ : ∃ way : Bool, r2 = .str (wayS way) := by
    simp at m2
    rcases m2 with rfl | rfl
    · exact ⟨true, rfl⟩
    · exact ⟨false, rfl⟩
  obtain ⟨lo, hi, hlo, hhi, hlh⟩ : ∃ lo hi : Int, lo = (if way then a.u else a.l) ∧ hi = (if way then a.b else a.r) ∧ (0 ≤ lo ∧ lo ≤ 12 ∧ 0 ≤ hi ∧ hi ≤ 12) := by
    have := hF.ok a ha
    unfold okA at this
    refine ⟨_, _, rfl, rfl, ?_⟩
    cases way <;> simp <;> omega
  have i0 : item (encA a) (.int 0) = some (.str a.t) := rfl
  have i1 : item (encA a) (.int 1) = some (.int a.l) := rfl
  have i2 : item (encA a) (.int 2) = some (.int a.u) := rfl
  have i3 : item (encA a) (.int 3) = some (.int a.r) := rfl
  have i4 : item (encA a) (.int 4) = some (.int a.b) := rfl
  have hw1 : ¬ ("upright" : Str) = ("level" : Str) := by decide
  have q2 := eq_str ok_level ok_level
  have q3 := eq_str ok_upright ok_level
  have hnames := names_lc (k + 2) (lapSt os2 (tags.map .str) (fs.map encA) tg x5 x7 (.val (encA a)) (.val (.str (wayS way))) (.val (.int lo)) (.val (.int hi)) x13) fs hfl rfl rfl rfl
  have hin := opIn_strs (x := tg) (xs := fs.map Ar.t) (hok tg htg) (fun y hy => by
    obtain ⟨b, hb, rfl⟩ := List.mem_map.mp hy
    exact hok _ (hF.sub b hb))
  by_cases hgo : 1 < hi - lo ∧ tg ∉ fs.map Ar.t
  · obtain ⟨g1, g2⟩ := hgo
    obtain ⟨r, os3, t1, t2, e3, hB3⟩ := take_ok (k + 1) (top := hi - lo - 1) hB2 (by omega) (by omega) (by omega)
    obtain ⟨gs, p, e4⟩ := split_ok (k + 1) fs a.t tg way (lo + 1 + r) hfl (hok _ (hF.sub a ha)) (fun b hb => hok _ (hF.sub b hb))
    have hFg := hF.split (tag := a.t) (way := way) htg g2 (spot := lo + 1 + r) (by omega) p
    obtain ⟨b, e5⟩ := no_cross_ok (k + 1) gs (Nat.le_trans hFg.len htl)
    have hB3' : Box os3 (n + 3) := hB3.mono (by omega)
    replace e3 : (I_law_take (k + 2)).sem os2 [.int (hi - lo - 1)] = some (.int r, os3) := e3
    replace e4 : (I_law_split (k + 2)).sem [] [.tuple (fs.map encA), .str a.t, .str (wayS way), .int (lo + 1 + r), .str tg] = some (.tuple (gs.map encA), []) := e4
    replace e5 : (I_law_no_cross (k + 2)).sem [] [.tuple (gs.map encA)] = some (.bool b, []) := e5
    have tb : ∀ b : Bool, truth (.bool b) = some b := fun b => rfl
    rw [decide_eq_false g2] at hin
    generalize tags.map PyData.str = T at *
    generalize hFS : fs.map encA = FS at *
    generalize (fs.map Ar.t).map PyData.str = NS at *
    generalize hGS : gs.map encA = GS at *
    refine ⟨os3, if b then gs else fs, .val (encA a), .val (.str (wayS way)), .val (.int lo), .val (.int hi), .val (.tuple GS), ?_, by cases b <;> assumption, hB3'⟩
    have hif : (if b then gs else fs).map encA = if b then GS else FS := by cases b <;> assumption
    rw [hif]
    cases way with
    | true =>
      simp at hlo hhi
      subst hlo hhi
      simp [wayS] at e2 e4 hnames
      unfold lapSt at hnames
      cases b <;> simp [b_law_flat_1, runDef, S.seq, S.skip, S.brk, S.cont, S.ite, S.asg, S.asgG, S.par, S.svOf, S.setItem, S.append, S.drop, S.aug, S.ret, S.retN, S.for_, C.const, C.varV, C.var, C.un1, C.bin, C.cmp, C.chain, C.ofT, C.test, C.not, C.and, C.or, C.andV, C.orV, C.ifx, C.nil, C.cons, C.star, C.tup, C.lst, C.repL, C.subOwn, C.lenOwn, C.noPart, C.part, C.sl, C.call, C.callO, C.callS, C.callK, C.popOwn, C.walk, C.iter, C.range1, C.range2, C.seqOf, C.enum, C.zip2, C.tgName, C.tgNil, C.tgCons, C.tgTup, C.yes, chk, binOp, cmpOp, cmpI, List.getElem?_cons, e1, e2, e3, e4, e5, i0, i2, i4, q2, hnames, hin, g1, opSub, opAdd, lapSt, line_small, tb, wayS]
    | false =>
      simp at hlo hhi
      subst hlo hhi
      simp [wayS] at e2 e4 hnames
      unfold lapSt at hnames
      cases b <;> simp [b_law_flat_1, runDef, S.seq, S.skip, S.brk, S.cont, S.ite, S.asg, S.asgG, S.par, S.svOf, S.setItem, S.append, S.drop, S.aug, S.ret, S.retN, S.for_, C.const, C.varV, C.var, C.un1, C.bin, C.cmp, C.chain, C.ofT, C.test, C.not, C.and, C.or, C.andV, C.orV, C.ifx, C.nil, C.cons, C.star, C.tup, C.lst, C.repL, C.subOwn, C.lenOwn, C.noPart, C.part, C.sl, C.call, C.callO, C.callS, C.callK, C.popOwn, C.walk, C.iter, C.range1, C.range2, C.seqOf, C.enum, C.zip2, C.tgName, C.tgNil, C.tgCons, C.tgTup, C.yes, chk, binOp, cmpOp, cmpI, List.getElem?_cons, e1, e2, e3, e4, e5, i0, i1, i3, q3, hw1, hnames, hin, g1, opSub, opAdd, lapSt, line_small, tb, wayS]
  · have hB2' : Box os2 (n + 3) := hB2.mono (by omega)
    refine ⟨os2, fs, .val (encA a), .val (.str (wayS way)), .val (.int lo), .val (.int hi), x13, ?_, hF, hB2'⟩
    generalize tags.map PyData.str = T at *
    by_cases g1 : 1 < hi - lo
    · have g2 : tg ∈ fs.map Ar.t := Classical.byContradiction fun z => hgo ⟨g1, z⟩
      rw [decide_eq_true g2] at hin
      generalize hFS : fs.map encA = FS at *
      generalize (fs.map Ar.t).map PyData.str = NS at *
      cases way with
      | true =>
        simp at hlo hhi
        subst hlo hhi
        simp [wayS] at e2 hnames
        simp [b_law_flat_1, runDef, S.seq, S.skip, S.brk, S.cont, S.ite, S.asg, S.asgG, S.par, S.svOf, S.setItem, S.append, S.drop, S.aug, S.ret, S.retN, S.for_, C.const, C.varV, C.var, C.un1, C.bin, C.cmp, C.chain, C.ofT, C.test, C.not, C.and, C.or, C.andV, C.orV, C.ifx, C.nil, C.cons, C.star, C.tup, C.lst, C.repL, C.subOwn, C.lenOwn, C.noPart, C.part, C.sl, C.call, C.callO, C.callS, C.callK, C.popOwn, C.walk, C.iter, C.range1, C.range2, C.seqOf, C.enum, C.zip2, C.tgName, C.tgNil, C.tgCons, C.tgTup, C.yes, chk, binOp, cmpOp, cmpI, List.getElem?_cons, e1, e2, i0, i2, i4, q2, hnames, hin, g1, opSub, opAdd, lapSt, line_small, wayS]
      | false =>
        simp at hlo hhi
        subst hlo hhi
        simp [wayS] at e2 hnames
        simp [b_law_flat_1, runDef, S.seq, S.skip, S.brk, S.cont, S.ite, S.asg, S.asgG, S.par, S.svOf, S.setItem, S.append, S.drop, S.aug, S.ret, S.retN, S.for_, C.const, C.varV, C.var, C.un1, C.bin, C.cmp, C.chain, C.ofT, C.test, C.not, C.and, C.or, C.andV, C.orV, C.ifx, C.nil, C.cons, C.star, C.tup, C.lst, C.repL, C.subOwn, C.lenOwn, C.noPart, C.part, C.sl, C.call, C.callO, C.callS, C.callK, C.popOwn, C.walk, C.iter, C.range1, C.range2, C.seqOf, C.enum, C.zip2, C.tgName, C.tgNil, C.tgCons, C.tgTup, C.yes, chk, binOp, cmpOp, cmpI, List.getElem?_cons, e1, e2, i0, i1, i3, q3, hw1, hnames, hin, g1, opSub, opAdd, lapSt, line_small, wayS]
    · generalize hFS : fs.map encA = FS at *
      cases way with
      | true =>
        simp at hlo hhi
        subst hlo hhi
        simp [wayS] at e2
        simp [b_law_flat_1, runDef, S.seq, S.skip, S.brk, S.cont, S.ite, S.asg, S.asgG, S.par, S.svOf, S.setItem, S.append, S.drop, S.aug, S.ret, S.retN, S.for_, C.const, C.varV, C.var, C.un1, C.bin, C.cmp, C.chain, C.ofT, C.test, C.not, C.and, C.or, C.andV, C.orV, C.ifx, C.nil, C.cons, C.star, C.tup, C.lst, C.repL, C.subOwn, C.lenOwn, C.noPart, C.part, C.sl, C.call, C.callO, C.callS, C.callK, C.popOwn, C.walk, C.iter, C.range1, C.range2, C.seqOf, C.enum, C.zip2, C.tgName, C.tgNil, C.tgCons, C.tgTup, C.yes, chk, binOp, cmpOp, cmpI, List.getElem?_cons, e1, e2, i0, i2, i4, q2, g1, opSub, opAdd, lapSt, line_small, wayS]
      | false =>
        simp at hlo hhi
        subst hlo hhi
        simp [wayS] at e2
        simp [b_law_flat_1, runDef, S.seq, S.skip, S.brk, S.cont, S.ite, S.asg, S.asgG, S.par, S.svOf, S.setItem, S.append, S.drop, S.aug, S.ret, S.retN, S.for_, C.const, C.varV, C.var, C.un1, C.bin, C.cmp, C.chain, C.ofT, C.test, C.not, C.and, C.or, C.andV, C.orV, C.ifx, C.nil, C.cons, C.star, C.tup, C.lst, C.repL, C.subOwn, C.lenOwn, C.noPart, C.part, C.sl, C.call, C.callO, C.callS, C.callK, C.popOwn, C.walk, C.iter, C.range1, C.range2, C.seqOf, C.enum, C.zip2, C.tgName, C.tgNil, C.tgCons, C.tgTup, C.yes, chk, binOp, cmpOp, cmpI, List.getElem?_cons, e1, e2, i0, i1, i3, q3, hw1, g1, opSub, opAdd, lapSt, line_small, wayS]
end K86

set_option maxRecDepth 100000
set_option maxHeartbeats 4000000
/-! The plain law, part 7: a whole flat. -/
namespace K86
open PySem PySem.Spec L2 Dl
open PyProof.Rows hiding St
theorem flat2_ok (k : Nat) {tags : List Str} {fs : List Ar} {tg : Str} {os : List Dl.D} {n : Int} (hF : FL tags fs) (htg : tg ∈ tags) (hok : ∀ t ∈ tags, okS t) (htl : tags.length ≤ 1000) (hB : Box os n) (hn : n + 30 < big) (x5 x7 x8 x9 x10 x11 x13 : SV) :
    ∃ os' fs' x7' x8' x9' x10' x11' x13', b_law_flat_2 (k + 2) (lapSt os (tags.map .str) (fs.map encA) tg x5 x7 x8 x9 x10 x11 x13) = some (.nx, lapSt os' (tags.map .str) (fs'.map encA) tg x5 x7' x8' x9' x10' x11' x13') ∧ FL tags fs' ∧ Box os' (n + 18) := by
  have loop := forL_inv (g := C.tgName 7) (b := b_law_flat_1 (k + 2)) (ds := C.upTo 0 6)
    (fun i ρ => ∃ os' fs' x7' x8' x9' x10' x11' x13', ρ = lapSt os' (tags.map .str) (fs'.map encA) tg x5 x7' x8' x9' x10' x11' x13' ∧ FL tags fs' ∧ Box os' (n + 3 * i))
    (fun i d hd ρ ⟨os1, fs1, y7, y8, y9, y10, y11, y13, e, hF1, hB1⟩ => by
      subst e
      obtain ⟨hi, rfl⟩ := upTo_get hd
      obtain ⟨os2, fs2, z8, z9, z10, z11, z13, e2, hF2, hB2⟩ := lap_ok k hF1 htg hok htl hB1 (by omega) x5 (.val (.int (0 + i))) y8 y9 y10 y11 y13
      exact ⟨_, _, rfl, e2, os2, fs2, _, z8, z9, z10, z11, z13, rfl, hF2, hB2.mono (by omega)⟩)
    (ρ := lapSt os (tags.map .str) (fs.map encA) tg x5 x7 x8 x9 x10 x11 x13) ⟨os, fs, x7, x8, x9, x10, x11, x13, rfl, hF, hB.mono (by omega)⟩
  obtain ⟨ρ', e, os', fs', x7', x8', x9', x10', x11', x13', rfl, hF', hB'⟩ := loop
  rw [upTo_len] at hB'
  refine ⟨os', fs', x7', x8', x9', x10', x11', x13', ?_, hF', hB'.mono (by omega)⟩
  have h6 : in62 (6 : Int) = true := by decide
  simp [b_law_flat_2, runDef, S.seq, S.skip, S.brk, S.cont, S.ite, S.asg, S.asgG, S.par, S.svOf, S.setItem, S.append, S.drop, S.aug, S.ret, S.retN, S.for_, C.const, C.varV, C.var, C.un1, C.bin, C.cmp, C.chain, C.ofT, C.test, C.not, C.and, C.or, C.andV, C.orV, C.ifx, C.nil, C.cons, C.star, C.tup, C.lst, C.repL, C.subOwn, C.lenOwn, C.noPart, C.part, C.sl, C.call, C.callO, C.callS, C.callK, C.popOwn, C.walk, C.iter, C.range1, C.range2, C.seqOf, C.enum, C.zip2, C.tgName, C.tgNil, C.tgCons, C.tgTup, C.yes, chk, binOp, cmpOp, cmpI, List.getElem?_cons, h6, line_small]
  exact e
theorem flat3_ok (k : Nat) {tags : List Str} {fs : List Ar} {os : List Dl.D} {n : Int} (rest : List Str) (hF : FL tags fs) (hr : ∀ t ∈ rest, t ∈ tags) (hrl : rest.length ≤ 9) (hok : ∀ t ∈ tags, okS t) (htl : tags.length ≤ 1000) (hB : Box os n) (hn : n + 200 < big) (x5 x6 x7 x8 x9 x10 x11 x13 : SV) :
    ∃ os' fs' x6' x7' x8' x9' x10' x11' x13', S.forL (C.tgName 6) (b_law_flat_2 (k + 2)) (rest.map .str) [.own os, .val (.int 7), .val (.int 3), .val (.list (tags.map .str)), .val (.tuple (fs.map encA)), x5, x6, x7, x8, x9, x10, x11, .un, x13] = some (.nx, [.own os', .val (.int 7), .val (.int 3), .val (.list (tags.map .str)), .val (.tuple (fs'.map encA)), x5, x6', x7', x8', x9', x10', x11', .un, x13']) ∧ FL tags fs' ∧ Box os' (n + 162) := by
  have loop := forL_inv (g := C.tgName 6) (b := b_law_flat_2 (k + 2)) (ds := rest.map .str)
    (fun i ρ => ∃ os' fs' x6' x7' x8' x9' x10' x11' x13', ρ = [.own os', .val (.int 7), .val (.int 3), .val (.list (tags.map .str)), .val (.tuple (fs'.map encA)), x5, x6', x7', x8', x9', x10', x11', .un, x13'] ∧ FL tags fs' ∧ Box os' (n + 18 * i))
    (fun i d hd ρ ⟨os1, fs1, y6, y7, y8, y9, y10, y11, y13, e, hF1, hB1⟩ => by
      subst e
      rw [List.getElem?_map] at hd
      obtain ⟨tg, htg, rfl⟩ := Option.map_eq_some_iff.mp hd
      have hi : i < rest.length := (List.getElem?_eq_some_iff.mp htg).1
      obtain ⟨os2, fs2, z7, z8, z9, z10, z11, z13, e2, hF2, hB2⟩ := flat2_ok k hF1 (hr _ (List.mem_of_getElem? htg)) hok htl hB1 (by omega) x5 y7 y8 y9 y10 y11 y13
      exact ⟨_, _, rfl, e2, os2, fs2, _, z7, z8, z9, z10, z11, z13, rfl, hF2, hB2.mono (by omega)⟩)
    (ρ := [.own os, .val (.int 7), .val (.int 3), .val (.list (tags.map .str)), .val (.tuple (fs.map encA)), x5, x6, x7, x8, x9, x10, x11, .un, x13]) ⟨os, fs, x6, x7, x8, x9, x10, x11, x13, rfl, hF, hB.mono (by omega)⟩
  obtain ⟨ρ', e, os', fs', x6', x7', x8', x9', x10', x11', x13', rfl, hF', hB'⟩ := loop
  rw [List.length_map] at hB'
  exact ⟨os', fs', x6', x7', x8', x9', x10', x11', x13', e, hF', hB'.mono (by omega)⟩
def poolL : List Str := ["a", "b", "c", "d", "e", "f", "g", "h", "x", "yy", "abcdefgh"]
theorem pool_ok : ∀ t ∈ poolL, okS t := by decide +kernel
theorem pool_nd : poolL.Nodup := by decide +kernel
theorem tags_ok (k : Nat) {os : List Dl.D} {n m : Int} (hB : Box os n) (hn : n + 20 < big) (h0 : 1 ≤ m) (h9 : m ≤ 9) : ∃ (tags : List Str) (os' : List Dl.D), (I_law_pick (k + 2)).sem os [.list (poolL.map .str), .int m] = some (.list (tags.map .str), os') ∧ Box os' (n + 11) ∧ tags.Nodup ∧ (∀ t ∈ tags, t ∈ poolL) ∧ (tags.length : Int) = m := by
  obtain ⟨ys, rest, os', p, hl, e, hB'⟩ := pick_ok k (xs := poolL.map .str) (pool := .list (poolL.map .str)) (m := m) hB (by show n + 11 < big; omega) (by decide) rfl (by omega)
  obtain ⟨zs, pz, ez⟩ := perm_map p
  have hy : ys = (zs.take ys.length).map .str := by
    rw [List.map_take, ← ez, List.take_left']
    rfl
  refine ⟨zs.take ys.length, os', by rw [← hy]; exact e, hB', ?_, fun t ht => pz.mem_iff.mp (List.mem_of_mem_take ht), ?_⟩
  · exact (pz.nodup_iff.mpr pool_nd).sublist (List.take_sublist _ _)
  · have h1 := congrArg List.length hy
    rw [List.length_map] at h1
    rw [← h1, hl]
    have : ((poolL.map PyData.str).length : Int) = 11 := rfl
    omega
end K86

set_option maxRecDepth 100000
set_option maxHeartbeats 4000000
/-! The plain law, part 8: the def of a flat. -/
namespace K86
open PySem PySem.Spec L2 Dl
open PyProof.Rows hiding St
theorem drop_slice (xs : List Dl.D) (n : Nat) : slice (.list xs) (some (n : Int)) none = some (.list (xs.drop n)) := by
  show some (PyData.list (Dl.cutD xs (some (n : Int)) none)) = _
  unfold Dl.cutD
  congr 2
  have e1 : HT.sIx xs.length 0 (some (n : Int)) = min n xs.length := by unfold HT.sIx; simp; omega
  have e2 : HT.sIx xs.length xs.length none = xs.length := rfl
  rw [e1, e2]
  by_cases h : n ≤ xs.length
  · rw [Nat.min_eq_left h, List.take_of_length_le (by simp)]
  · rw [List.drop_eq_nil_of_le (by omega), List.drop_eq_nil_of_le (by omega)]
    simp
theorem item_get {xs : List Dl.D} {i : Nat} {d : Dl.D} (h : xs[i]? = some d) : item (.list xs) (.int i) = some d := by
  have hi : i < xs.length := (List.getElem?_eq_some_iff.mp h).1
  obtain ⟨x, h1, h2⟩ := atI_lt (xs := xs) (i := (i : Int)) (by omega) (by omega)
  rw [Int.toNat_natCast, h] at h1
  cases h1
  exact h2
theorem opSorted_tup (ds : List Dl.D) : opSorted (.tuple ds) = chk (sortB ds) (.list (isort ds)) := rfl
def wheel (t0 t1 t2 t3 t4 : Str) : List Ar := [⟨t0, 0, 0, 9, 3⟩, ⟨t1, 9, 0, 12, 9⟩, ⟨t2, 3, 9, 12, 12⟩, ⟨t3, 0, 3, 3, 12⟩, ⟨t4, 3, 3, 9, 9⟩]
theorem flat_ok (k : Nat) {os : List Dl.D} {n : Int} (hB : Box os n) (hn : n + 300 < big) : ∃ (tags : List Str) (fs : List Ar) (os' : List Dl.D), (I_law_flat (k + 3)).sem os [.int 7, .int 3] = some (.tuple (fs.map encA), os') ∧ FL tags fs ∧ tags.length ≤ 9 ∧ (∀ t ∈ tags, t ∈ poolL) ∧ Box os' (n + 200) := by
  rw [sem_law_flat]
  obtain ⟨r, os1, r0, r1, e1, hB1⟩ := take_ok (k + 1) (top := 7) hB (by omega) (by omega) (by omega)
  replace e1 : (I_law_take (k + 2)).sem os [.int 7] = some (.int r, os1) := e1
  obtain ⟨tags, os2, e2, hB2, nd, sub, tl⟩ := tags_ok k (m := 1 + r) hB1 (by omega) (by omega) (by omega)
  have hok : ∀ t ∈ tags, okS t := fun t ht => pool_ok t (sub t ht)
  have htl : tags.length ≤ 9 := by omega
  obtain ⟨t0, tr, et⟩ : ∃ t0 tr, tags = t0 :: tr := by
    cases tags with
    | nil => simp at tl; omega
    | cons a b => exact ⟨a, b, rfl⟩
  have i0 : item (.list (tags.map .str)) (.int 0) = some (.str t0) := by rw [et]; simp [item, atI, ixN]
  have hlen : opLen (.list (tags.map .str)) = some (.int tags.length) := by show some (PyData.int ((tags.map PyData.str).length : Nat)) = _; rw [List.length_map]
  have hF0 : FL tags [⟨t0, 0, 0, 12, 12⟩] := ⟨by simp, fun a ha => by rw [List.mem_singleton.mp ha]; unfold okA; simp, by simp, fun a ha => by rw [List.mem_singleton.mp ha, et]; exact List.mem_cons_self⟩
  have m43 : opMul (.int 4) (.int 3) = some (.int 12) := rfl
  have m33 : opMul (.int 3) (.int 3) = some (.int 9) := rfl
  have pl : (PyData.list (poolL.map PyData.str)) = .list [.str "a", .str "b", .str "c", .str "d", .str "e", .str "f", .str "g", .str "h", .str "x", .str "yy", .str "abcdefgh"] := rfl
  rw [pl] at e2
  -- the rest: the loop from any flat
  have fin : ∀ (fs : List Ar) (os3 : List Dl.D) (x5 : SV), FL tags fs → Box os3 (n + 13) → ∃ (fs' : List Ar) (os' : List Dl.D) (σ : Rho), (S.seq (S.for_ (C.iter (C.sl (C.var 3) (C.part (C.lenOwn 4)) C.noPart)) (C.tgName 6) (b_law_flat_2 (k + 2))) <| S.ret (C.var 4)) [.own os3, .val (.int 7), .val (.int 3), .val (.list (tags.map .str)), .val (.tuple (fs.map encA)), x5, .un, .un, .un, .un, .un, .un, .un, .un] = some (.rt (.tuple (fs'.map encA)), .own os' :: σ) ∧ FL tags fs' ∧ Box os' (n + 200) := fun fs os3 x5 hF hB3 => by
    obtain ⟨os', fs', y6, y7, y8, y9, y10, y11, y13, e, hF', hB'⟩ := flat3_ok k (tags.drop fs.length) hF (fun t ht => List.mem_of_mem_drop ht) (by rw [List.length_drop]; omega) hok (by omega) hB3 (by omega) x5 .un .un .un .un .un .un .un
    refine ⟨fs', os', [.val (.int 7), .val (.int 3), .val (.list (tags.map .str)), .val (.tuple (fs'.map encA)), x5, y6, y7, y8, y9, y10, y11, .un, y13], ?_, hF', hB'.mono (by omega)⟩
    have hs := drop_slice (tags.map .str) fs.length
    rw [← List.map_drop] at hs
    have hl4 : opLen (.tuple (fs.map encA)) = some (.int fs.length) := by show some (PyData.int ((fs.map encA).length : Nat)) = _; rw [List.length_map]
    generalize (tags.drop fs.length).map PyData.str = DS at *
    generalize tags.map PyData.str = T at *
    generalize fs.map encA = FS at *
    generalize fs'.map encA = FS' at *
    simp [runDef, S.seq, S.skip, S.brk, S.cont, S.ite, S.asg, S.asgG, S.par, S.svOf, S.setItem, S.append, S.drop, S.aug, S.ret, S.retN, S.for_, C.const, C.varV, C.var, C.un1, C.bin, C.cmp, C.chain, C.ofT, C.test, C.not, C.and, C.or, C.andV, C.orV, C.ifx, C.nil, C.cons, C.star, C.tup, C.lst, C.repL, C.subOwn, C.lenOwn, C.noPart, C.part, C.sl, C.call, C.callO, C.callS, C.callK, C.popOwn, C.walk, C.iter, C.range1, C.range2, C.seqOf, C.enum, C.zip2, C.tgName, C.tgNil, C.tgCons, C.tgTup, C.yes, chk, binOp, cmpOp, cmpI, List.getElem?_cons, hl4, hs, e]
  by_cases hw : 4 < tags.length
  · obtain ⟨q, os3, q0, q1, e3, hB3⟩ := take_ok (k + 1) (top := 3) hB2 (by omega) (by omega) (by omega)
    replace e3 : (I_law_take (k + 2)).sem os2 [.int 3] = some (.int q, os3) := e3
    have hB3' : Box os3 (n + 13) := hB3.mono (by omega)
    by_cases hq : q = 0
    · subst hq
      obtain ⟨t1, t2, t3, t4, tz, et2⟩ : ∃ t1 t2 t3 t4 tz, tags = t0 :: t1 :: t2 :: t3 :: t4 :: tz := by
        rw [et] at hw ⊢
        match tr, hw with
        | a :: b :: c :: d :: z, _ => exact ⟨a, b, c, d, z, rfl⟩
        | [], h => simp at h
        | [_], h => simp at h
        | [_, _], h => simp at h
        | [_, _, _], h => simp at h
      have i1 : item (.list (tags.map .str)) (.int 1) = some (.str t1) := item_get (i := 1) (by rw [et2]; rfl)
      have i2 : item (.list (tags.map .str)) (.int 2) = some (.str t2) := item_get (i := 2) (by rw [et2]; rfl)
      have i3 : item (.list (tags.map .str)) (.int 3) = some (.str t3) := item_get (i := 3) (by rw [et2]; rfl)
      have i4 : item (.list (tags.map .str)) (.int 4) = some (.str t4) := item_get (i := 4) (by rw [et2]; rfl)
      obtain ⟨gs, p, hgs⟩ := sort_map (enc := encA) (wheel t0 t1 t2 t3 t4)
      have hso : opSorted (.tuple ((wheel t0 t1 t2 t3 t4).map encA)) = some (.list (gs.map encA)) := by
        rw [opSorted_tup, sortB_A _ (by unfold line wheel; simp), hgs]
        rfl
      have hFg : FL tags gs := by
        refine ⟨fun z => ?_, fun a ha => ?_, (p.map Ar.t).nodup_iff.mpr ?_, fun a ha => ?_⟩
        · rw [z] at p
          have := p.length_eq
          simp [wheel] at this
        · have := p.mem_iff.mp ha
          simp [wheel] at this
          unfold okA
          rcases this with rfl | rfl | rfl | rfl | rfl <;> simp
        · have := nd
          rw [et2] at this
          have h5 : (wheel t0 t1 t2 t3 t4).map Ar.t = [t0, t1, t2, t3, t4] := rfl
          rw [h5]
          exact this.sublist (l₁ := [t0, t1, t2, t3, t4]) (List.take_sublist 5 (t0 :: t1 :: t2 :: t3 :: t4 :: tz))
        · have := p.mem_iff.mp ha
          simp [wheel] at this
          rw [et2]
          rcases this with rfl | rfl | rfl | rfl | rfl <;> simp
      obtain ⟨fs', os', σ, e, hF', hB'⟩ := fin gs os3 (.val (.int 3)) hFg hB3'
      refine ⟨tags, fs', os', ?_, hF', htl, sub, hB'⟩
      have hwe : (wheel t0 t1 t2 t3 t4).map encA = [.tuple [.str t0, .int 0, .int 0, .int 9, .int 3], .tuple [.str t1, .int 9, .int 0, .int 12, .int 9], .tuple [.str t2, .int 3, .int 9, .int 12, .int 12], .tuple [.str t3, .int 0, .int 3, .int 3, .int 12], .tuple [.str t4, .int 3, .int 3, .int 9, .int 9]] := rfl
      rw [hwe] at hso
      have hgl : gs.length = 5 := p.length_eq
      have hgl2 : (gs.map encA).length ≤ line := by rw [List.length_map, hgl]; unfold line; omega
      generalize tags.map PyData.str = T at *
      generalize gs.map encA = GS at *
      generalize fs'.map encA = FS' at *
      generalize hrest : (S.seq (S.for_ (C.iter (C.sl (C.var 3) (C.part (C.lenOwn 4)) C.noPart)) (C.tgName 6) (b_law_flat_2 (k + 2))) <| S.ret (C.var 4)) = R at *
      have hq0 : opEq (.int 0) (.int 0) = some true := rfl
      have hwd : decide ((4 : Int) < (tags.length : Int)) = true := decide_eq_true (by omega)
      generalize (tags.length : Int) = TL at *
      unfold z_law_flat
      rw [hrest]
      simp [runDef, S.seq, S.skip, S.brk, S.cont, S.ite, S.asg, S.asgG, S.par, S.svOf, S.setItem, S.append, S.drop, S.aug, S.ret, S.retN, S.for_, C.const, C.varV, C.var, C.un1, C.bin, C.cmp, C.chain, C.ofT, C.test, C.not, C.and, C.or, C.andV, C.orV, C.ifx, C.nil, C.cons, C.star, C.tup, C.lst, C.repL, C.subOwn, C.lenOwn, C.noPart, C.part, C.sl, C.call, C.callO, C.callS, C.callK, C.popOwn, C.walk, C.iter, C.range1, C.range2, C.seqOf, C.enum, C.zip2, C.tgName, C.tgNil, C.tgCons, C.tgTup, C.yes, chk, binOp, cmpOp, cmpI, List.getElem?_cons, e1, e2, e3, i0, i1, i2, i3, i4, hlen, hwd, m43, m33, opAdd, hso, hq0, hgl2, line_small, e, opTuple]
    · obtain ⟨fs', os', σ, e, hF', hB'⟩ := fin _ os3 .un hF0 hB3'
      refine ⟨tags, fs', os', ?_, hF', htl, sub, hB'⟩
      have hone : [(⟨t0, 0, 0, 12, 12⟩ : Ar)].map encA = [.tuple [.str t0, .int 0, .int 0, .int 12, .int 12]] := rfl
      rw [hone] at e
      generalize tags.map PyData.str = T at *
      generalize fs'.map encA = FS' at *
      generalize hrest : (S.seq (S.for_ (C.iter (C.sl (C.var 3) (C.part (C.lenOwn 4)) C.noPart)) (C.tgName 6) (b_law_flat_2 (k + 2))) <| S.ret (C.var 4)) = R at *
      have hq0 : opEq (.int q) (.int 0) = some (decide (q = 0)) := by
        show some (PyData.eqv (.int q) (.int 0)) = _
        congr 1
      have hwd : decide ((4 : Int) < (tags.length : Int)) = true := decide_eq_true (by omega)
      generalize (tags.length : Int) = TL at *
      unfold z_law_flat
      rw [hrest]
      simp [runDef, S.seq, S.skip, S.brk, S.cont, S.ite, S.asg, S.asgG, S.par, S.svOf, S.setItem, S.append, S.drop, S.aug, S.ret, S.retN, S.for_, C.const, C.varV, C.var, C.un1, C.bin, C.cmp, C.chain, C.ofT, C.test, C.not, C.and, C.or, C.andV, C.orV, C.ifx, C.nil, C.cons, C.star, C.tup, C.lst, C.repL, C.subOwn, C.lenOwn, C.noPart, C.part, C.sl, C.call, C.callO, C.callS, C.callK, C.popOwn, C.walk, C.iter, C.range1, C.range2, C.seqOf, C.enum, C.zip2, C.tgName, C.tgNil, C.tgCons, C.tgTup, C.yes, chk, binOp, cmpOp, cmpI, List.getElem?_cons, e1, e2, e3, i0, hlen, hwd, m43, opAdd, hq0, hq, line_small, e]
  · obtain ⟨fs', os', σ, e, hF', hB'⟩ := fin _ os2 .un hF0 (hB2.mono (by omega))
    refine ⟨tags, fs', os', ?_, hF', htl, sub, hB'⟩
    have hone : [(⟨t0, 0, 0, 12, 12⟩ : Ar)].map encA = [.tuple [.str t0, .int 0, .int 0, .int 12, .int 12]] := rfl
    rw [hone] at e
    generalize tags.map PyData.str = T at *
    generalize fs'.map encA = FS' at *
    generalize hrest : (S.seq (S.for_ (C.iter (C.sl (C.var 3) (C.part (C.lenOwn 4)) C.noPart)) (C.tgName 6) (b_law_flat_2 (k + 2))) <| S.ret (C.var 4)) = R at *
    have hwd : decide ((4 : Int) < (tags.length : Int)) = false := decide_eq_false (by omega)
    generalize (tags.length : Int) = TL at *
    unfold z_law_flat
    rw [hrest]
    simp [runDef, S.seq, S.skip, S.brk, S.cont, S.ite, S.asg, S.asgG, S.par, S.svOf, S.setItem, S.append, S.drop, S.aug, S.ret, S.retN, S.for_, C.const, C.varV, C.var, C.un1, C.bin, C.cmp, C.chain, C.ofT, C.test, C.not, C.and, C.or, C.andV, C.orV, C.ifx, C.nil, C.cons, C.star, C.tup, C.lst, C.repL, C.subOwn, C.lenOwn, C.noPart, C.part, C.sl, C.call, C.callO, C.callS, C.callK, C.popOwn, C.walk, C.iter, C.range1, C.range2, C.seqOf, C.enum, C.zip2, C.tgName, C.tgNil, C.tgCons, C.tgTup, C.yes, chk, binOp, cmpOp, cmpI, List.getElem?_cons, e1, e2, i0, hlen, hwd, m43, opAdd, line_small, e]
end K86

set_option maxRecDepth 100000
set_option maxHeartbeats 4000000
/-! The plain law, part 9: the seams. -/
namespace K86
open PySem PySem.Spec L2 Dl
open PyProof.Rows hiding St
theorem lcLoop_enc {α : Type} {enc : α → Dl.D} {vs : List Nat} {turn : Dl.D → Rho → Option (Option Dl.D × Rho)} {ρ0 : Rho} (c : α → Bool) (e : α → Dl.D) : ∀ {fs : List α} {acc : List Dl.D}, (∀ a ∈ fs, ∃ ρ', turn (enc a) ρ0 = some (if c a then some (e a) else none, ρ') ∧ C.wipeR ρ' vs = ρ0) → acc.length + fs.length ≤ line → C.lcLoop vs turn (fs.map enc) acc ρ0 = some (acc ++ (fs.filter c).map e, ρ0)
  | [], acc, _, _ => by simp [C.lcLoop]
  | a :: fs, acc, h, hl => by
    obtain ⟨ρ', e1, e2⟩ := h a List.mem_cons_self
    have h' := fun x hx => h x (List.mem_cons_of_mem _ hx)
    rw [List.length_cons] at hl
    rw [List.map_cons]
    unfold C.lcLoop
    rw [e1, List.filter_cons]
    cases hc : c a with
    | false =>
      simp only [e2, Bool.false_eq_true, if_false]
      exact lcLoop_enc c e h' (by omega)
    | true =>
      have hlt : acc.length < line := by omega
      simp only [decide_eq_true hlt, e2, if_true]
      rw [lcLoop_enc c e h' (by rw [List.length_append, List.length_singleton]; omega)]
      simp
theorem lc_enc {α : Type} {enc : α → Dl.D} {vs : List Nat} {it : AV} {g : GV} {t : TV} {ex : EV} {ρ ρ1 : Rho} {fs : List α} (c : α → Bool) (e : α → Dl.D) (h : it ρ = some (fs.map enc, ρ1)) (hn : (vs.all fun v => C.notOwn ρ1[v]?) = true) (hl : fs.length ≤ line)
    (ht : ∀ a ∈ fs, ∃ ρ', C.lcTurn g t ex (enc a) (C.wipeR ρ1 vs) = some (if c a then some (e a) else none, ρ') ∧ C.wipeR ρ' vs = C.wipeR ρ1 vs) : C.lc vs it g t ex ρ = some (.list ((fs.filter c).map e), C.back ρ1 (C.wipeR ρ1 vs) vs) := by
  unfold C.lc
  rw [h]
  simp only [hn]
  rw [lcLoop_enc c e ht (by simpa using hl)]
  rfl
theorem ints_map : ∀ ns : List Int, ints? (ns.map .int) = some ns
  | [] => rfl
  | n :: r => by
    show (ints? (r.map .int)).map (n :: ·) = _
    rw [ints_map r]
    rfl
def pos (w : Bool) (a : Ar) : Int := if w then a.u else a.l
def off (w : Bool) (a : Ar) : Int × Int := if w then (a.l, a.r) else (a.u, a.b)
def axI (w : Bool) : Int := if w then 2 else 1
theorem seams_c3 (k : Nat) (fs : List Ar) (hl : fs.length ≤ 1000) (w : Bool) (m1 m2 : Int) (s1 s3 s4 s6 s7 s8 : SV) (h3 : C.notOwn (some s3) = true) :
    l_law_seams_3 k [.val (.tuple (fs.map encA)), s1, .own [.int m1, .int m2], s3, s4, .val (.int (axI w)), s6, s7, s8] = some (.list (((fs.filter fun a => decide ((if w then m2 else m1) < pos w a)).map (pos w)).map .int), [.val (.tuple (fs.map encA)), s1, .own [.int m1, .int m2], s3, s4, .val (.int (axI w)), s6, s7, s8]) := by
  have e := lc_enc (enc := encA) (vs := [3]) (it := C.iter (C.var 0)) (g := C.tgName 3) (t := (C.cmp (cmpOp .Gt) (C.subOwn 3 (C.var 5)) (C.subOwn 2 (C.bin (binOp .Sub) (C.var 5) (C.const (.int 1)))))) (ex := (C.subOwn 3 (C.var 5)))
    (ρ := [.val (.tuple (fs.map encA)), s1, .own [.int m1, .int m2], s3, s4, .val (.int (axI w)), s6, s7, s8]) (ρ1 := [.val (.tuple (fs.map encA)), s1, .own [.int m1, .int m2], s3, s4, .val (.int (axI w)), s6, s7, s8]) (fs := fs)
    (fun a => decide ((if w then m2 else m1) < pos w a)) (fun a => .int (pos w a)) (by simp [runDef, S.seq, S.skip, S.brk, S.cont, S.ite, S.asg, S.asgG, S.par, S.svOf, S.setItem, S.append, S.drop, S.aug, S.ret, S.retN, S.for_, C.const, C.varV, C.var, C.un1, C.bin, C.cmp, C.chain, C.ofT, C.test, C.not, C.and, C.or, C.andV, C.orV, C.ifx, C.nil, C.cons, C.star, C.tup, C.lst, C.repL, C.subOwn, C.lenOwn, C.noPart, C.part, C.sl, C.call, C.callO, C.callS, C.callK, C.popOwn, C.walk, C.iter, C.range1, C.range2, C.seqOf, C.enum, C.zip2, C.tgName, C.tgNil, C.tgCons, C.tgTup, C.yes, chk, binOp, cmpOp, cmpI, List.getElem?_cons]) (by simpa using h3) (by unfold line; omega) (fun a ha => by
      refine ⟨[.val (.tuple (fs.map encA)), s1, .own [.int m1, .int m2], .val (encA a), s4, .val (.int (axI w)), s6, s7, s8], ?_, rfl⟩
      have i1 : item (encA a) (.int 1) = some (.int a.l) := rfl
      have i2 : item (encA a) (.int 2) = some (.int a.u) := rfl
      have j0 : atI [PyData.int m1, .int m2] 0 = some (.int m1) := rfl
      have j1 : atI [PyData.int m1, .int m2] 1 = some (.int m2) := rfl
      generalize fs.map encA = FS at *
      cases w with
      | true =>
        by_cases h : m2 < a.u <;> simp [C.lcTurn, C.wipeR, runDef, S.seq, S.skip, S.brk, S.cont, S.ite, S.asg, S.asgG, S.par, S.svOf, S.setItem, S.append, S.drop, S.aug, S.ret, S.retN, S.for_, C.const, C.varV, C.var, C.un1, C.bin, C.cmp, C.chain, C.ofT, C.test, C.not, C.and, C.or, C.andV, C.orV, C.ifx, C.nil, C.cons, C.star, C.tup, C.lst, C.repL, C.subOwn, C.lenOwn, C.noPart, C.part, C.sl, C.call, C.callO, C.callS, C.callK, C.popOwn, C.walk, C.iter, C.range1, C.range2, C.seqOf, C.enum, C.zip2, C.tgName, C.tgNil, C.tgCons, C.tgTup, C.yes, chk, binOp, cmpOp, cmpI, List.getElem?_cons, i1, i2, j0, j1, axI, pos, opSub, h]
      | false =>
        by_cases h : m1 < a.l <;> simp [C.lcTurn, C.wipeR, runDef, S.seq, S.skip, S.brk, S.cont, S.ite, S.asg, S.asgG, S.par, S.svOf, S.setItem, S.append, S.drop, S.aug, S.ret, S.retN, S.for_, C.const, C.varV, C.var, C.un1, C.bin, C.cmp, C.chain, C.ofT, C.test, C.not, C.and, C.or, C.andV, C.orV, C.ifx, C.nil, C.cons, C.star, C.tup, C.lst, C.repL, C.subOwn, C.lenOwn, C.noPart, C.part, C.sl, C.call, C.callO, C.callS, C.callK, C.popOwn, C.walk, C.iter, C.range1, C.range2, C.seqOf, C.enum, C.zip2, C.tgName, C.tgNil, C.tgCons, C.tgTup, C.yes, chk, binOp, cmpOp, cmpI, List.getElem?_cons, i1, i2, j0, j1, axI, pos, opSub, h])
  rw [List.map_map]
  exact e
theorem eq_int (x y : Int) : opEq (.int x) (.int y) = some (decide (x = y)) := by
  show some (PyData.eqv (.int x) (.int y)) = _
  congr 1
theorem seams_c4 (k : Nat) (fs : List Ar) (hl : fs.length ≤ 1000) (w : Bool) (sp : Int) (s1 s2 s3 s4 s7 s8 : SV) (h3 : C.notOwn (some s3) = true) :
    l_law_seams_4 k [.val (.tuple (fs.map encA)), s1, s2, s3, s4, .val (.int (axI w)), .val (.int sp), s7, s8] = some (.list (((fs.filter fun a => decide (pos w a = sp)).map (off w)).map encP), [.val (.tuple (fs.map encA)), s1, s2, s3, s4, .val (.int (axI w)), .val (.int sp), s7, s8]) := by
  have e := lc_enc (enc := encA) (vs := [3]) (it := C.iter (C.var 0)) (g := C.tgName 3) (t := (C.cmp (cmpOp .Eq) (C.subOwn 3 (C.var 5)) (C.var 6))) (ex := (C.tup (C.cons (C.subOwn 3 (C.bin (binOp .Sub) (C.const (.int 3)) (C.var 5))) (C.cons (C.subOwn 3 (C.bin (binOp .Sub) (C.const (.int 5)) (C.var 5))) C.nil))))
    (ρ := [.val (.tuple (fs.map encA)), s1, s2, s3, s4, .val (.int (axI w)), .val (.int sp), s7, s8]) (ρ1 := [.val (.tuple (fs.map encA)), s1, s2, s3, s4, .val (.int (axI w)), .val (.int sp), s7, s8]) (fs := fs)
    (fun a => decide (pos w a = sp)) (fun a => encP (off w a)) (by simp [runDef, S.seq, S.skip, S.brk, S.cont, S.ite, S.asg, S.asgG, S.par, S.svOf, S.setItem, S.append, S.drop, S.aug, S.ret, S.retN, S.for_, C.const, C.varV, C.var, C.un1, C.bin, C.cmp, C.chain, C.ofT, C.test, C.not, C.and, C.or, C.andV, C.orV, C.ifx, C.nil, C.cons, C.star, C.tup, C.lst, C.repL, C.subOwn, C.lenOwn, C.noPart, C.part, C.sl, C.call, C.callO, C.callS, C.callK, C.popOwn, C.walk, C.iter, C.range1, C.range2, C.seqOf, C.enum, C.zip2, C.tgName, C.tgNil, C.tgCons, C.tgTup, C.yes, chk, binOp, cmpOp, cmpI, List.getElem?_cons]) (by simpa using h3) (by unfold line; omega) (fun a ha => by
      refine ⟨[.val (.tuple (fs.map encA)), s1, s2, .val (encA a), s4, .val (.int (axI w)), .val (.int sp), s7, s8], ?_, rfl⟩
      have i1 : item (encA a) (.int 1) = some (.int a.l) := rfl
      have i2 : item (encA a) (.int 2) = some (.int a.u) := rfl
      have i3 : item (encA a) (.int 3) = some (.int a.r) := rfl
      have i4 : item (encA a) (.int 4) = some (.int a.b) := rfl
      generalize fs.map encA = FS at *
      cases w with
      | true =>
        by_cases h : a.u = sp <;> simp [C.lcTurn, C.wipeR, runDef, S.seq, S.skip, S.brk, S.cont, S.ite, S.asg, S.asgG, S.par, S.svOf, S.setItem, S.append, S.drop, S.aug, S.ret, S.retN, S.for_, C.const, C.varV, C.var, C.un1, C.bin, C.cmp, C.chain, C.ofT, C.test, C.not, C.and, C.or, C.andV, C.orV, C.ifx, C.nil, C.cons, C.star, C.tup, C.lst, C.repL, C.subOwn, C.lenOwn, C.noPart, C.part, C.sl, C.call, C.callO, C.callS, C.callK, C.popOwn, C.walk, C.iter, C.range1, C.range2, C.seqOf, C.enum, C.zip2, C.tgName, C.tgNil, C.tgCons, C.tgTup, C.yes, chk, binOp, cmpOp, cmpI, List.getElem?_cons, i1, i2, i3, axI, pos, off, encP, opSub, eq_int, h, line_small]
      | false =>
        by_cases h : a.l = sp <;> simp [C.lcTurn, C.wipeR, runDef, S.seq, S.skip, S.brk, S.cont, S.ite, S.asg, S.asgG, S.par, S.svOf, S.setItem, S.append, S.drop, S.aug, S.ret, S.retN, S.for_, C.const, C.varV, C.var, C.un1, C.bin, C.cmp, C.chain, C.ofT, C.test, C.not, C.and, C.or, C.andV, C.orV, C.ifx, C.nil, C.cons, C.star, C.tup, C.lst, C.repL, C.subOwn, C.lenOwn, C.noPart, C.part, C.sl, C.call, C.callO, C.callS, C.callK, C.popOwn, C.walk, C.iter, C.range1, C.range2, C.seqOf, C.enum, C.zip2, C.tgName, C.tgNil, C.tgCons, C.tgTup, C.yes, chk, binOp, cmpOp, cmpI, List.getElem?_cons, i1, i2, i4, axI, pos, off, encP, opSub, eq_int, h, line_small])
  rw [List.map_map]
  exact e
/-- one seam: its way, where it lies, from, to -/
structure Se where
  w : Bool
  at_ : Int
  lo : Int
  hi : Int
def encSe (s : Se) : Dl.D := .tuple [.str (wayS s.w), .int s.at_, .int s.lo, .int s.hi]
abbrev seSt (FS ss low : List Dl.D) (s3 : SV) (w : Bool) (s6 s7 s8 : SV) : Rho :=
  [.val (.tuple FS), .own ss, .own low, s3, .val (.str (wayS w)), .val (.int (axI w)), s6, s7, s8]
theorem sortB_P (ps : List (Int × Int)) (hl : ps.length ≤ line) : sortB (ps.map encP) = true :=
  sortB_map hl (fun a _ b _ => by simp [encP, PySem.W.alike, PySem.W.alikeAll]) (fun a _ => rfl) fun a _ => by simp [encP, PyData.depth, PyData.depthAll]
theorem opSorted_list (ds : List Dl.D) : opSorted (.list ds) = chk (sortB ds) (.list (isort ds)) := rfl
theorem seams_b2 (k : Nat) (fs : List Ar) (hl : fs.length ≤ 100) (low : List Dl.D) (ss : List Se) (hs : ss.length ≤ 100000) (w : Bool) (sp : Int) (s3 s7 s8 : SV) (h3 : C.notOwn (some s3) = true) (hsp : ∃ a ∈ fs, pos w a = sp) :
    ∃ (ss' : List Se) (s3' s7' s8' : SV), b_law_seams_2 k (seSt (fs.map encA) (ss.map encSe) low s3 w (.val (.int sp)) s7 s8) = some (.nx, seSt (fs.map encA) (ss'.map encSe) low s3' w (.val (.int sp)) s7' s8') ∧ C.notOwn (some s3') = true ∧ ss'.length ≤ ss.length + fs.length := by
  have c4 := seams_c4 k fs (by omega) w sp (.own (ss.map encSe)) (.own low) s3 (.val (.str (wayS w))) s7 s8 h3
  obtain ⟨ps, hps⟩ : ∃ ps, ps = (fs.filter fun a => decide (pos w a = sp)).map (off w) := ⟨_, rfl⟩
  have hpl : ps.length ≤ fs.length := by rw [hps, List.length_map]; exact List.length_filter_le _ _
  have hpn : ps ≠ [] := by
    obtain ⟨a, ha, e⟩ := hsp
    have : off w a ∈ ps := by rw [hps]; exact List.mem_map_of_mem (List.mem_filter.mpr ⟨ha, decide_eq_true e⟩)
    exact List.ne_nil_of_mem this
  rw [← hps] at c4
  obtain ⟨qs, pq, hqs⟩ := sort_map (enc := encP) ps
  have hql := pq.length_eq
  have hso : opSorted (.list (ps.map encP)) = some (.list (qs.map encP)) := by
    rw [opSorted_list, sortB_P ps (by unfold line; omega), hqs]
    rfl
  obtain ⟨q0, qr, rfl⟩ : ∃ q0 qr, qs = q0 :: qr := by
    cases qs with
    | nil => exact absurd (List.eq_nil_of_length_eq_zero hql.symm) hpn
    | cons a b => exact ⟨a, b, rfl⟩
  have hqr : qr.length + 1 ≤ fs.length := by rw [List.length_cons] at hql; omega
  have loop := forL_inv (g := C.tgName 3) (b := b_law_seams_1 k) (ds := qr.map encP)
    (fun i ρ => ∃ (ss' : List Se) (s3' : SV) (q : Int × Int), ρ = seSt (fs.map encA) (ss'.map encSe) low s3' w (.val (.int sp)) (.val (.list ((q0 :: qr).map encP))) (.val (encP q)) ∧ C.notOwn (some s3') = true ∧ ss'.length ≤ ss.length + i)
    (fun i d hd ρ ⟨ss1, s31, q, e, hno, hle⟩ => by
      rw [List.getElem?_map] at hd
      obtain ⟨p, hp, rfl⟩ := Option.map_eq_some_iff.mp hd
      have hi : i < qr.length := (List.getElem?_eq_some_iff.mp hp).1
      subst e
      have i0 : item (encP p) (.int 0) = some (.int p.1) := rfl
      have i1 : item (encP p) (.int 1) = some (.int p.2) := rfl
      have k0 : item (encP q) (.int 0) = some (.int q.1) := rfl
      have k1 : item (encP q) (.int 1) = some (.int q.2) := rfl
      have hlt : (ss1.map encSe).length < line := by rw [List.length_map]; unfold line; omega
      refine ⟨seSt (fs.map encA) (ss1.map encSe) low (.val (encP p)) w (.val (.int sp)) (.val (.list ((q0 :: qr).map encP))) (.val (encP q)), ?_⟩
      by_cases h : p.1 = q.2
      · refine ⟨seSt (fs.map encA) (ss1.map encSe) low (.val (encP p)) w (.val (.int sp)) (.val (.list ((q0 :: qr).map encP))) (.val (encP (q.1, p.2))), rfl, ?_, ss1, _, (q.1, p.2), rfl, rfl, by omega⟩
        have hen : encP (q.1, p.2) = .tuple [.int q.1, .int p.2] := rfl
        generalize ss1.map encSe = S1 at *
        generalize fs.map encA = FS at *
        generalize (q0 :: qr).map encP = QS at *
        rw [hen]
        simp [b_law_seams_1, runDef, S.seq, S.skip, S.brk, S.cont, S.ite, S.asg, S.asgG, S.par, S.svOf, S.setItem, S.append, S.drop, S.aug, S.ret, S.retN, S.for_, C.const, C.varV, C.var, C.un1, C.bin, C.cmp, C.chain, C.ofT, C.test, C.not, C.and, C.or, C.andV, C.orV, C.ifx, C.nil, C.cons, C.star, C.tup, C.lst, C.repL, C.subOwn, C.lenOwn, C.noPart, C.part, C.sl, C.call, C.callO, C.callS, C.callK, C.popOwn, C.walk, C.iter, C.range1, C.range2, C.seqOf, C.enum, C.zip2, C.tgName, C.tgNil, C.tgCons, C.tgTup, C.yes, chk, binOp, cmpOp, cmpI, List.getElem?_cons, seSt, i0, i1, k0, k1, eq_int, h, line_small]
      · refine ⟨seSt (fs.map encA) ((ss1 ++ [(⟨w, sp, q.1, q.2⟩ : Se)]).map encSe) low (.val (encP p)) w (.val (.int sp)) (.val (.list ((q0 :: qr).map encP))) (.val (encP p)), rfl, ?_, _, _, p, rfl, rfl, by rw [List.length_append, List.length_singleton]; omega⟩
        rw [List.map_append]
        have hen : [(⟨w, sp, q.1, q.2⟩ : Se)].map encSe = [.tuple [.str (wayS w), .int sp, .int q.1, .int q.2]] := rfl
        have hap : opAdd (.tuple [.str (wayS w), .int sp]) (encP q) = some (.tuple [.str (wayS w), .int sp, .int q.1, .int q.2]) := rfl
        rw [hen]
        generalize ss1.map encSe = S1 at *
        generalize fs.map encA = FS at *
        generalize (q0 :: qr).map encP = QS at *
        simp [b_law_seams_1, runDef, S.seq, S.skip, S.brk, S.cont, S.ite, S.asg, S.asgG, S.par, S.svOf, S.setItem, S.append, S.drop, S.aug, S.ret, S.retN, S.for_, C.const, C.varV, C.var, C.un1, C.bin, C.cmp, C.chain, C.ofT, C.test, C.not, C.and, C.or, C.andV, C.orV, C.ifx, C.nil, C.cons, C.star, C.tup, C.lst, C.repL, C.subOwn, C.lenOwn, C.noPart, C.part, C.sl, C.call, C.callO, C.callS, C.callK, C.popOwn, C.walk, C.iter, C.range1, C.range2, C.seqOf, C.enum, C.zip2, C.tgName, C.tgNil, C.tgCons, C.tgTup, C.yes, chk, binOp, cmpOp, cmpI, List.getElem?_cons, seSt, i0, i1, k0, k1, eq_int, h, hap, hlt, line_small])
    (ρ := seSt (fs.map encA) (ss.map encSe) low s3 w (.val (.int sp)) (.val (.list ((q0 :: qr).map encP))) (.val (encP q0))) ⟨ss, s3, q0, rfl, h3, by omega⟩
  obtain ⟨ρ', e, ss1, s31, q, rfl, hno, hle⟩ := loop
  rw [List.length_map] at hle
  refine ⟨ss1 ++ [(⟨w, sp, q.1, q.2⟩ : Se)], s31, .val (.list ((q0 :: qr).map encP)), .val (encP q), ?_, hno, by rw [List.length_append, List.length_singleton]; omega⟩
  rw [List.map_append]
  have hen : [(⟨w, sp, q.1, q.2⟩ : Se)].map encSe = [.tuple [.str (wayS w), .int sp, .int q.1, .int q.2]] := rfl
  have hap : opAdd (.tuple [.str (wayS w), .int sp]) (encP q) = some (.tuple [.str (wayS w), .int sp, .int q.1, .int q.2]) := rfl
  have hlt : (ss1.map encSe).length < line := by rw [List.length_map]; unfold line; omega
  have hsl : slice (.list ((q0 :: qr).map encP)) (some 1) none = some (.list (qr.map encP)) := drop_slice ((q0 :: qr).map encP) 1
  have ha0 : atI ((q0 :: qr).map encP) 0 = some (encP q0) := by simp [atI, ixN]
  rw [hen]
  generalize ss1.map encSe = S1 at *
  generalize ss.map encSe = S0 at *
  generalize fs.map encA = FS at *
  generalize (q0 :: qr).map encP = QS at *
  simp [b_law_seams_2, runDef, S.seq, S.skip, S.brk, S.cont, S.ite, S.asg, S.asgG, S.par, S.svOf, S.setItem, S.append, S.drop, S.aug, S.ret, S.retN, S.for_, C.const, C.varV, C.var, C.un1, C.bin, C.cmp, C.chain, C.ofT, C.test, C.not, C.and, C.or, C.andV, C.orV, C.ifx, C.nil, C.cons, C.star, C.tup, C.lst, C.repL, C.subOwn, C.lenOwn, C.noPart, C.part, C.sl, C.call, C.callO, C.callS, C.callK, C.popOwn, C.walk, C.iter, C.range1, C.range2, C.seqOf, C.enum, C.zip2, C.tgName, C.tgNil, C.tgCons, C.tgTup, C.yes, chk, binOp, cmpOp, cmpI, List.getElem?_cons, seSt, c4, hso, ha0, hsl, e, hap, hlt, line_small]
end K86

set_option maxRecDepth 100000
set_option maxHeartbeats 4000000
/-! The plain law, part 10: all seams of a flat. -/
namespace K86
open PySem PySem.Spec L2 Dl
open PyProof.Rows hiding St
theorem once_mem : ∀ {ns : List Int} {x : Int}, x ∈ once ns → x ∈ ns
  | [], _, h => by simp [once] at h
  | y :: r, x, h => by
    unfold once at h
    split at h
    · exact List.mem_cons_of_mem _ (once_mem h)
    · rcases List.mem_cons.mp h with h | h
      · rw [h]; exact List.mem_cons_self
      · exact List.mem_cons_of_mem _ (once_mem h)
theorem once_len : ∀ (ns : List Int), (once ns).length ≤ ns.length
  | [] => by simp [once]
  | y :: r => by
    unfold once
    have := once_len r
    split <;> simp <;> omega
theorem spots_ok (ns : List Int) (h : ns.length < 64) : ∃ zs : List Int, opSortedSet (.list (ns.map .int)) = some (.list (zs.map .int)) ∧ (∀ z ∈ zs, z ∈ ns) ∧ zs.length ≤ ns.length := by
  obtain ⟨zs, p, e⟩ := sort_map (enc := PyData.int) (once ns)
  refine ⟨zs, ?_, fun z hz => once_mem (p.mem_iff.mp hz), by rw [p.length_eq]; exact once_len ns⟩
  show (match ints? (ns.map .int) with | some ns' => chk (decide ((ns.map PyData.int).length < 64)) (PyData.list (isort ((once ns').map .int))) | none => chk (setB (ns.map PyData.int)) (PyData.list (isort (onceK (ns.map PyData.int))))) = _
  rw [ints_map, List.length_map]
  show chk (decide (ns.length < 64)) _ = _
  rw [decide_eq_true h, e]
  rfl
theorem seams_b3 (k : Nat) (fs : List Ar) (hl : fs.length ≤ 9) (m1 m2 : Int) (ss : List Se) (hs : ss.length ≤ 1000) (w : Bool) (s3 s6 s7 s8 : SV) (h3 : C.notOwn (some s3) = true) :
    ∃ (ss' : List Se) (s3' s6' s7' s8' : SV), b_law_seams_3 k (seSt (fs.map encA) (ss.map encSe) [.int m1, .int m2] s3 w s6 s7 s8) = some (.nx, seSt (fs.map encA) (ss'.map encSe) [.int m1, .int m2] s3' w s6' s7' s8') ∧ C.notOwn (some s3') = true ∧ ss'.length ≤ ss.length + 81 := by
  have c3 := seams_c3 k fs (by omega) w m1 m2 (.own (ss.map encSe)) s3 (.val (.str (wayS w))) s6 s7 s8 h3
  obtain ⟨ns, hns⟩ : ∃ ns, ns = (fs.filter fun a => decide ((if w then m2 else m1) < pos w a)).map (pos w) := ⟨_, rfl⟩
  rw [← hns] at c3
  have hnl : ns.length ≤ fs.length := by rw [hns, List.length_map]; exact List.length_filter_le _ _
  have hnm : ∀ z ∈ ns, ∃ a ∈ fs, pos w a = z := fun z hz => by
    rw [hns] at hz
    obtain ⟨a, ha, e⟩ := List.mem_map.mp hz
    exact ⟨a, (List.mem_filter.mp ha).1, e⟩
  obtain ⟨zs, hso, hzm, hzl⟩ := spots_ok ns (by omega)
  have loop := forL_inv (g := C.tgName 6) (b := b_law_seams_2 k) (ds := zs.map PyData.int)
    (fun i ρ => ∃ (ss' : List Se) (s3' s6' s7' s8' : SV), ρ = seSt (fs.map encA) (ss'.map encSe) [.int m1, .int m2] s3' w s6' s7' s8' ∧ C.notOwn (some s3') = true ∧ ss'.length ≤ ss.length + 9 * i)
    (fun i d hd ρ ⟨ss1, t3, t6, t7, t8, e, hno, hle⟩ => by
      rw [List.getElem?_map] at hd
      obtain ⟨z, hz, rfl⟩ := Option.map_eq_some_iff.mp hd
      have hi : i < zs.length := (List.getElem?_eq_some_iff.mp hz).1
      subst e
      obtain ⟨ss2, u3, u7, u8, e2, hno2, hle2⟩ := seams_b2 k fs (by omega) [.int m1, .int m2] ss1 (by omega) w z t3 t7 t8 hno (hnm z (hzm z (List.mem_of_getElem? hz)))
      exact ⟨_, _, rfl, e2, ss2, u3, _, u7, u8, rfl, hno2, by omega⟩)
    (ρ := seSt (fs.map encA) (ss.map encSe) [.int m1, .int m2] s3 w s6 s7 s8) ⟨ss, s3, s6, s7, s8, rfl, h3, by omega⟩
  obtain ⟨ρ', e, ss', t3, t6, t7, t8, rfl, hno, hle⟩ := loop
  rw [List.length_map] at hle
  refine ⟨ss', t3, t6, t7, t8, ?_, hno, by omega⟩
  simp [b_law_seams_3, runDef, S.seq, S.skip, S.brk, S.cont, S.ite, S.asg, S.asgG, S.par, S.svOf, S.setItem, S.append, S.drop, S.aug, S.ret, S.retN, S.for_, C.const, C.varV, C.var, C.un1, C.bin, C.cmp, C.chain, C.ofT, C.test, C.not, C.and, C.or, C.andV, C.orV, C.ifx, C.nil, C.cons, C.star, C.tup, C.lst, C.repL, C.subOwn, C.lenOwn, C.noPart, C.part, C.sl, C.call, C.callO, C.callS, C.callK, C.popOwn, C.walk, C.iter, C.range1, C.range2, C.seqOf, C.enum, C.zip2, C.tgName, C.tgNil, C.tgCons, C.tgTup, C.yes, chk, binOp, cmpOp, cmpI, List.getElem?_cons, c3, hso, e]
theorem seams_c1 (k : Nat) (fs : List Ar) (hl : fs.length ≤ 1000) (s1 s2 s4 s5 s6 s7 s8 : SV) :
    l_law_seams_1 k [.val (.tuple (fs.map encA)), s1, s2, .un, s4, s5, s6, s7, s8] = some (.list ((fs.map Ar.u).map .int), [.val (.tuple (fs.map encA)), s1, s2, .un, s4, s5, s6, s7, s8]) := by
  have e := lc_enc (enc := encA) (vs := [3]) (it := C.iter (C.var 0)) (g := C.tgName 3) (t := C.yes) (ex := C.subOwn 3 (C.const (.int 2)))
    (ρ := [.val (.tuple (fs.map encA)), s1, s2, .un, s4, s5, s6, s7, s8]) (ρ1 := [.val (.tuple (fs.map encA)), s1, s2, .un, s4, s5, s6, s7, s8]) (fs := fs)
    (fun a => true) (fun a => .int a.u) (by simp [runDef, S.seq, S.skip, S.brk, S.cont, S.ite, S.asg, S.asgG, S.par, S.svOf, S.setItem, S.append, S.drop, S.aug, S.ret, S.retN, S.for_, C.const, C.varV, C.var, C.un1, C.bin, C.cmp, C.chain, C.ofT, C.test, C.not, C.and, C.or, C.andV, C.orV, C.ifx, C.nil, C.cons, C.star, C.tup, C.lst, C.repL, C.subOwn, C.lenOwn, C.noPart, C.part, C.sl, C.call, C.callO, C.callS, C.callK, C.popOwn, C.walk, C.iter, C.range1, C.range2, C.seqOf, C.enum, C.zip2, C.tgName, C.tgNil, C.tgCons, C.tgTup, C.yes, chk, binOp, cmpOp, cmpI, List.getElem?_cons]) rfl (by unfold line; omega) (fun a ha => by
      refine ⟨[.val (.tuple (fs.map encA)), s1, s2, .val (encA a), s4, s5, s6, s7, s8], ?_, rfl⟩
      have i2 : item (encA a) (.int 2) = some (.int a.u) := rfl
      generalize fs.map encA = FS at *
      simp [C.lcTurn, C.wipeR, runDef, S.seq, S.skip, S.brk, S.cont, S.ite, S.asg, S.asgG, S.par, S.svOf, S.setItem, S.append, S.drop, S.aug, S.ret, S.retN, S.for_, C.const, C.varV, C.var, C.un1, C.bin, C.cmp, C.chain, C.ofT, C.test, C.not, C.and, C.or, C.andV, C.orV, C.ifx, C.nil, C.cons, C.star, C.tup, C.lst, C.repL, C.subOwn, C.lenOwn, C.noPart, C.part, C.sl, C.call, C.callO, C.callS, C.callK, C.popOwn, C.walk, C.iter, C.range1, C.range2, C.seqOf, C.enum, C.zip2, C.tgName, C.tgNil, C.tgCons, C.tgTup, C.yes, chk, binOp, cmpOp, cmpI, List.getElem?_cons, i2])
  rw [List.map_map]
  rw [List.filter_eq_self.mpr (fun _ _ => rfl)] at e
  exact e
theorem seams_c2 (k : Nat) (fs : List Ar) (hl : fs.length ≤ 1000) (s1 s2 s4 s5 s6 s7 s8 : SV) :
    l_law_seams_2 k [.val (.tuple (fs.map encA)), s1, s2, .un, s4, s5, s6, s7, s8] = some (.list ((fs.map Ar.l).map .int), [.val (.tuple (fs.map encA)), s1, s2, .un, s4, s5, s6, s7, s8]) := by
  have e := lc_enc (enc := encA) (vs := [3]) (it := C.iter (C.var 0)) (g := C.tgName 3) (t := C.yes) (ex := C.subOwn 3 (C.const (.int 1)))
    (ρ := [.val (.tuple (fs.map encA)), s1, s2, .un, s4, s5, s6, s7, s8]) (ρ1 := [.val (.tuple (fs.map encA)), s1, s2, .un, s4, s5, s6, s7, s8]) (fs := fs)
    (fun a => true) (fun a => .int a.l) (by simp [runDef, S.seq, S.skip, S.brk, S.cont, S.ite, S.asg, S.asgG, S.par, S.svOf, S.setItem, S.append, S.drop, S.aug, S.ret, S.retN, S.for_, C.const, C.varV, C.var, C.un1, C.bin, C.cmp, C.chain, C.ofT, C.test, C.not, C.and, C.or, C.andV, C.orV, C.ifx, C.nil, C.cons, C.star, C.tup, C.lst, C.repL, C.subOwn, C.lenOwn, C.noPart, C.part, C.sl, C.call, C.callO, C.callS, C.callK, C.popOwn, C.walk, C.iter, C.range1, C.range2, C.seqOf, C.enum, C.zip2, C.tgName, C.tgNil, C.tgCons, C.tgTup, C.yes, chk, binOp, cmpOp, cmpI, List.getElem?_cons]) rfl (by unfold line; omega) (fun a ha => by
      refine ⟨[.val (.tuple (fs.map encA)), s1, s2, .val (encA a), s4, s5, s6, s7, s8], ?_, rfl⟩
      have i2 : item (encA a) (.int 1) = some (.int a.l) := rfl
      generalize fs.map encA = FS at *
      simp [C.lcTurn, C.wipeR, runDef, S.seq, S.skip, S.brk, S.cont, S.ite, S.asg, S.asgG, S.par, S.svOf, S.setItem, S.append, S.drop, S.aug, S.ret, S.retN, S.for_, C.const, C.varV, C.var, C.un1, C.bin, C.cmp, C.chain, C.ofT, C.test, C.not, C.and, C.or, C.andV, C.orV, C.ifx, C.nil, C.cons, C.star, C.tup, C.lst, C.repL, C.subOwn, C.lenOwn, C.noPart, C.part, C.sl, C.call, C.callO, C.callS, C.callK, C.popOwn, C.walk, C.iter, C.range1, C.range2, C.seqOf, C.enum, C.zip2, C.tgName, C.tgNil, C.tgCons, C.tgTup, C.yes, chk, binOp, cmpOp, cmpI, List.getElem?_cons, i2])
  rw [List.map_map]
  rw [List.filter_eq_self.mpr (fun _ _ => rfl)] at e
  exact e
theorem min_map {ns : List Int} (h : ns ≠ []) : ∃ m : Int, opMin (.list (ns.map .int)) = some (.int m) := by
  cases ns with
  | nil => exact absurd rfl h
  | cons a r =>
    refine ⟨least a r, ?_⟩
    show (match ints? ((a :: r).map .int) with | some (m :: r) => some (PyData.int (least m r)) | _ => none) = _
    rw [ints_map]
theorem sortB_Se (ps : List Se) (hl : ps.length ≤ line) : sortB (ps.map encSe) = true :=
  sortB_map hl (fun a _ b _ => by simp [encSe, PySem.W.alike, PySem.W.alikeAll]) (fun a _ => rfl) fun a _ => by simp [encSe, PyData.depth, PyData.depthAll]
theorem seams_ok (k : Nat) (fs : List Ar) (hne : fs ≠ []) (hl : fs.length ≤ 9) : ∃ ss : List Se, (I_law_seams (k + 1)).sem [] [.tuple (fs.map encA)] = some (.list (ss.map encSe), []) ∧ ss.length ≤ 162 := by
  rw [sem_law_seams]
  have c1 := seams_c1 k fs (by omega) .un .un .un .un .un .un .un
  have c2 := seams_c2 k fs (by omega) .un .un .un .un .un .un .un
  obtain ⟨m2, e2⟩ := min_map (ns := fs.map Ar.u) (by simpa using hne)
  obtain ⟨m1, e1⟩ := min_map (ns := fs.map Ar.l) (by simpa using hne)
  obtain ⟨ss1, t3, t6, t7, t8, b1, hno1, hle1⟩ := seams_b3 k fs hl m1 m2 [] (by simp) true .un .un .un .un rfl
  obtain ⟨ss2, u3, u6, u7, u8, b2, hno2, hle2⟩ := seams_b3 k fs hl m1 m2 ss1 (by rw [List.length_nil] at hle1; omega) false t3 t6 t7 t8 hno1
  rw [List.length_nil] at hle1
  obtain ⟨gs, p, hgs⟩ := sort_map (enc := encSe) ss2
  have hso : opSorted (.list (ss2.map encSe)) = some (.list (gs.map encSe)) := by
    rw [opSorted_list, sortB_Se ss2 (by unfold line; omega), hgs]
    rfl
  refine ⟨gs, ?_, by rw [p.length_eq]; omega⟩
  generalize (fs.map Ar.u).map PyData.int = U at *
  generalize (fs.map Ar.l).map PyData.int = L at *
  generalize fs.map encA = FS at *
  generalize ss1.map encSe = S1 at *
  generalize ss2.map encSe = S2 at *
  simp [seSt, wayS, axI] at b1 b2
  simp [z_law_seams, runDef, S.seq, S.skip, S.brk, S.cont, S.ite, S.asg, S.asgG, S.par, S.svOf, S.setItem, S.append, S.drop, S.aug, S.ret, S.retN, S.for_, C.const, C.varV, C.var, C.un1, C.bin, C.cmp, C.chain, C.ofT, C.test, C.not, C.and, C.or, C.andV, C.orV, C.ifx, C.nil, C.cons, C.star, C.tup, C.lst, C.repL, C.subOwn, C.lenOwn, C.noPart, C.part, C.sl, C.call, C.callO, C.callS, C.callK, C.popOwn, C.walk, C.iter, C.range1, C.range2, C.seqOf, C.enum, C.zip2, C.tgName, C.tgNil, C.tgCons, C.tgTup, C.yes, chk, binOp, cmpOp, cmpI, List.getElem?_cons, c1, c2, e1, e2, S.forL, b1, b2, hso, line_small]
end K86

set_option maxRecDepth 100000
set_option maxHeartbeats 4000000
/-! The plain law, part 11: the rows at a seam. -/
namespace K86
open PySem PySem.Spec L2 Dl
open PyProof.Rows hiding St
def far (w : Bool) (a : Ar) : Int := if w then a.b else a.r
def encQ (q : Int × Str) : Dl.D := .tuple [.int q.1, .str q.2]
def tagAt (w : Bool) (a : Ar) : Int × Str := ((off w a).1, a.t)
theorem rows_c1 (k : Nat) (fs : List Ar) (hl : fs.length ≤ 1000) (w : Bool) (lo hi : Int) (s1 s2 s3 s7 s9 s10 : SV) :
    l_law_rows_1 k [.val (.tuple (fs.map encA)), s1, s2, s3, .val (.int lo), .val (.int hi), .val (.int (axI w)), s7, .un, s9, s10] = some (.list ((fs.filter fun a => decide (lo ≤ (off w a).1) && decide ((off w a).1 < hi)).map encA), [.val (.tuple (fs.map encA)), s1, s2, s3, .val (.int lo), .val (.int hi), .val (.int (axI w)), s7, .un, s9, s10]) := by
  exact lc_enc (enc := encA) (vs := [8]) (it := C.iter (C.var 0)) (g := C.tgName 8) (t := (C.chain (cmpOp .LtE) (cmpOp .Lt) (C.var 4) (C.subOwn 8 (C.bin (binOp .Sub) (C.const (.int 3)) (C.var 6))) (C.var 5))) (ex := C.var 8)
    (ρ := [.val (.tuple (fs.map encA)), s1, s2, s3, .val (.int lo), .val (.int hi), .val (.int (axI w)), s7, .un, s9, s10]) (ρ1 := [.val (.tuple (fs.map encA)), s1, s2, s3, .val (.int lo), .val (.int hi), .val (.int (axI w)), s7, .un, s9, s10]) (fs := fs)
    (fun a => decide (lo ≤ (off w a).1) && decide ((off w a).1 < hi)) encA (by simp [runDef, S.seq, S.skip, S.brk, S.cont, S.ite, S.asg, S.asgG, S.par, S.svOf, S.setItem, S.append, S.drop, S.aug, S.ret, S.retN, S.for_, C.const, C.varV, C.var, C.un1, C.bin, C.cmp, C.chain, C.ofT, C.test, C.not, C.and, C.or, C.andV, C.orV, C.ifx, C.nil, C.cons, C.star, C.tup, C.lst, C.repL, C.subOwn, C.lenOwn, C.noPart, C.part, C.sl, C.call, C.callO, C.callS, C.callK, C.popOwn, C.walk, C.iter, C.range1, C.range2, C.seqOf, C.enum, C.zip2, C.tgName, C.tgNil, C.tgCons, C.tgTup, C.yes, chk, binOp, cmpOp, cmpI, List.getElem?_cons]) rfl (by unfold line; omega) (fun a ha => by
      refine ⟨[.val (.tuple (fs.map encA)), s1, s2, s3, .val (.int lo), .val (.int hi), .val (.int (axI w)), s7, .val (encA a), s9, s10], ?_, rfl⟩
      have i1 : item (encA a) (.int 1) = some (.int a.l) := rfl
      have i2 : item (encA a) (.int 2) = some (.int a.u) := rfl
      generalize fs.map encA = FS at *
      cases w with
      | true =>
        by_cases h : lo ≤ a.l <;> by_cases h2 : a.l < hi <;> simp [C.lcTurn, C.wipeR, runDef, S.seq, S.skip, S.brk, S.cont, S.ite, S.asg, S.asgG, S.par, S.svOf, S.setItem, S.append, S.drop, S.aug, S.ret, S.retN, S.for_, C.const, C.varV, C.var, C.un1, C.bin, C.cmp, C.chain, C.ofT, C.test, C.not, C.and, C.or, C.andV, C.orV, C.ifx, C.nil, C.cons, C.star, C.tup, C.lst, C.repL, C.subOwn, C.lenOwn, C.noPart, C.part, C.sl, C.call, C.callO, C.callS, C.callK, C.popOwn, C.walk, C.iter, C.range1, C.range2, C.seqOf, C.enum, C.zip2, C.tgName, C.tgNil, C.tgCons, C.tgTup, C.yes, chk, binOp, cmpOp, cmpI, List.getElem?_cons, i1, i2, axI, off, opSub, h, h2]
      | false =>
        by_cases h : lo ≤ a.u <;> by_cases h2 : a.u < hi <;> simp [C.lcTurn, C.wipeR, runDef, S.seq, S.skip, S.brk, S.cont, S.ite, S.asg, S.asgG, S.par, S.svOf, S.setItem, S.append, S.drop, S.aug, S.ret, S.retN, S.for_, C.const, C.varV, C.var, C.un1, C.bin, C.cmp, C.chain, C.ofT, C.test, C.not, C.and, C.or, C.andV, C.orV, C.ifx, C.nil, C.cons, C.star, C.tup, C.lst, C.repL, C.subOwn, C.lenOwn, C.noPart, C.part, C.sl, C.call, C.callO, C.callS, C.callK, C.popOwn, C.walk, C.iter, C.range1, C.range2, C.seqOf, C.enum, C.zip2, C.tgName, C.tgNil, C.tgCons, C.tgTup, C.yes, chk, binOp, cmpOp, cmpI, List.getElem?_cons, i1, i2, axI, off, opSub, h, h2])
theorem rows_c2 (k : Nat) (fs : List Ar) (hl : fs.length ≤ 1000) (w : Bool) (sp : Int) (s0 s1 s2 s4 s5 s9 s10 s7 : SV) (h7 : s7 = .own (fs.map encA) ∨ s7 = .val (.list (fs.map encA))) :
    l_law_rows_2 k [s0, s1, s2, .val (.int sp), s4, s5, .val (.int (axI w)), s7, .un, s9, s10] = some (.list (((fs.filter fun a => decide (far w a = sp)).map (tagAt w)).map encQ), [s0, s1, s2, .val (.int sp), s4, s5, .val (.int (axI w)), .val (.list (fs.map encA)), .un, s9, s10]) := by
  have e := lc_enc (enc := encA) (vs := [8]) (it := C.iter (C.var 7)) (g := C.tgName 8) (t := (C.cmp (cmpOp .Eq) (C.subOwn 8 (C.bin (binOp .Add) (C.var 6) (C.const (.int 2)))) (C.var 3))) (ex := (C.tup (C.cons (C.subOwn 8 (C.bin (binOp .Sub) (C.const (.int 3)) (C.var 6))) (C.cons (C.subOwn 8 (C.const (.int 0))) C.nil))))
    (ρ := [s0, s1, s2, .val (.int sp), s4, s5, .val (.int (axI w)), s7, .un, s9, s10]) (ρ1 := [s0, s1, s2, .val (.int sp), s4, s5, .val (.int (axI w)), .val (.list (fs.map encA)), .un, s9, s10]) (fs := fs)
    (fun a => decide (far w a = sp)) (fun a => encQ (tagAt w a)) (by rcases h7 with rfl | rfl <;> simp [runDef, S.seq, S.skip, S.brk, S.cont, S.ite, S.asg, S.asgG, S.par, S.svOf, S.setItem, S.append, S.drop, S.aug, S.ret, S.retN, S.for_, C.const, C.varV, C.var, C.un1, C.bin, C.cmp, C.chain, C.ofT, C.test, C.not, C.and, C.or, C.andV, C.orV, C.ifx, C.nil, C.cons, C.star, C.tup, C.lst, C.repL, C.subOwn, C.lenOwn, C.noPart, C.part, C.sl, C.call, C.callO, C.callS, C.callK, C.popOwn, C.walk, C.iter, C.range1, C.range2, C.seqOf, C.enum, C.zip2, C.tgName, C.tgNil, C.tgCons, C.tgTup, C.yes, chk, binOp, cmpOp, cmpI, List.getElem?_cons]) rfl (by unfold line; omega) (fun a ha => by
      refine ⟨[s0, s1, s2, .val (.int sp), s4, s5, .val (.int (axI w)), .val (.list (fs.map encA)), .val (encA a), s9, s10], ?_, rfl⟩
      have i0 : item (encA a) (.int 0) = some (.str a.t) := rfl
      have i1 : item (encA a) (.int 1) = some (.int a.l) := rfl
      have i2 : item (encA a) (.int 2) = some (.int a.u) := rfl
      have i3 : item (encA a) (.int 3) = some (.int a.r) := rfl
      have i4 : item (encA a) (.int 4) = some (.int a.b) := rfl
      generalize fs.map encA = FS at *
      cases w with
      | true =>
        by_cases h : a.b = sp <;> simp [C.lcTurn, C.wipeR, runDef, S.seq, S.skip, S.brk, S.cont, S.ite, S.asg, S.asgG, S.par, S.svOf, S.setItem, S.append, S.drop, S.aug, S.ret, S.retN, S.for_, C.const, C.varV, C.var, C.un1, C.bin, C.cmp, C.chain, C.ofT, C.test, C.not, C.and, C.or, C.andV, C.orV, C.ifx, C.nil, C.cons, C.star, C.tup, C.lst, C.repL, C.subOwn, C.lenOwn, C.noPart, C.part, C.sl, C.call, C.callO, C.callS, C.callK, C.popOwn, C.walk, C.iter, C.range1, C.range2, C.seqOf, C.enum, C.zip2, C.tgName, C.tgNil, C.tgCons, C.tgTup, C.yes, chk, binOp, cmpOp, cmpI, List.getElem?_cons, i0, i1, i4, axI, far, off, tagAt, encQ, opSub, opAdd, eq_int, h, line_small]
      | false =>
        by_cases h : a.r = sp <;> simp [C.lcTurn, C.wipeR, runDef, S.seq, S.skip, S.brk, S.cont, S.ite, S.asg, S.asgG, S.par, S.svOf, S.setItem, S.append, S.drop, S.aug, S.ret, S.retN, S.for_, C.const, C.varV, C.var, C.un1, C.bin, C.cmp, C.chain, C.ofT, C.test, C.not, C.and, C.or, C.andV, C.orV, C.ifx, C.nil, C.cons, C.star, C.tup, C.lst, C.repL, C.subOwn, C.lenOwn, C.noPart, C.part, C.sl, C.call, C.callO, C.callS, C.callK, C.popOwn, C.walk, C.iter, C.range1, C.range2, C.seqOf, C.enum, C.zip2, C.tgName, C.tgNil, C.tgCons, C.tgTup, C.yes, chk, binOp, cmpOp, cmpI, List.getElem?_cons, i0, i2, i3, axI, far, off, tagAt, encQ, opSub, opAdd, eq_int, h, line_small])
  rw [List.map_map]
  exact e
theorem rows_c3 (k : Nat) (fs : List Ar) (hl : fs.length ≤ 1000) (w : Bool) (sp : Int) (s0 s1 s2 s4 s5 s9 s10 s7 : SV) (h7 : s7 = .own (fs.map encA) ∨ s7 = .val (.list (fs.map encA))) :
    l_law_rows_3 k [s0, s1, s2, .val (.int sp), s4, s5, .val (.int (axI w)), s7, .un, s9, s10] = some (.list (((fs.filter fun a => decide (pos w a = sp)).map (tagAt w)).map encQ), [s0, s1, s2, .val (.int sp), s4, s5, .val (.int (axI w)), .val (.list (fs.map encA)), .un, s9, s10]) := by
  have e := lc_enc (enc := encA) (vs := [8]) (it := C.iter (C.var 7)) (g := C.tgName 8) (t := (C.cmp (cmpOp .Eq) (C.subOwn 8 (C.var 6)) (C.var 3))) (ex := (C.tup (C.cons (C.subOwn 8 (C.bin (binOp .Sub) (C.const (.int 3)) (C.var 6))) (C.cons (C.subOwn 8 (C.const (.int 0))) C.nil))))
    (ρ := [s0, s1, s2, .val (.int sp), s4, s5, .val (.int (axI w)), s7, .un, s9, s10]) (ρ1 := [s0, s1, s2, .val (.int sp), s4, s5, .val (.int (axI w)), .val (.list (fs.map encA)), .un, s9, s10]) (fs := fs)
    (fun a => decide (pos w a = sp)) (fun a => encQ (tagAt w a)) (by rcases h7 with rfl | rfl <;> simp [runDef, S.seq, S.skip, S.brk, S.cont, S.ite, S.asg, S.asgG, S.par, S.svOf, S.setItem, S.append, S.drop, S.aug, S.ret, S.retN, S.for_, C.const, C.varV, C.var, C.un1, C.bin, C.cmp, C.chain, C.ofT, C.test, C.not, C.and, C.or, C.andV, C.orV, C.ifx, C.nil, C.cons, C.star, C.tup, C.lst, C.repL, C.subOwn, C.lenOwn, C.noPart, C.part, C.sl, C.call, C.callO, C.callS, C.callK, C.popOwn, C.walk, C.iter, C.range1, C.range2, C.seqOf, C.enum, C.zip2, C.tgName, C.tgNil, C.tgCons, C.tgTup, C.yes, chk, binOp, cmpOp, cmpI, List.getElem?_cons]) rfl (by unfold line; omega) (fun a ha => by
      refine ⟨[s0, s1, s2, .val (.int sp), s4, s5, .val (.int (axI w)), .val (.list (fs.map encA)), .val (encA a), s9, s10], ?_, rfl⟩
      have i0 : item (encA a) (.int 0) = some (.str a.t) := rfl
      have i1 : item (encA a) (.int 1) = some (.int a.l) := rfl
      have i2 : item (encA a) (.int 2) = some (.int a.u) := rfl
      generalize fs.map encA = FS at *
      cases w with
      | true =>
        by_cases h : a.u = sp <;> simp [C.lcTurn, C.wipeR, runDef, S.seq, S.skip, S.brk, S.cont, S.ite, S.asg, S.asgG, S.par, S.svOf, S.setItem, S.append, S.drop, S.aug, S.ret, S.retN, S.for_, C.const, C.varV, C.var, C.un1, C.bin, C.cmp, C.chain, C.ofT, C.test, C.not, C.and, C.or, C.andV, C.orV, C.ifx, C.nil, C.cons, C.star, C.tup, C.lst, C.repL, C.subOwn, C.lenOwn, C.noPart, C.part, C.sl, C.call, C.callO, C.callS, C.callK, C.popOwn, C.walk, C.iter, C.range1, C.range2, C.seqOf, C.enum, C.zip2, C.tgName, C.tgNil, C.tgCons, C.tgTup, C.yes, chk, binOp, cmpOp, cmpI, List.getElem?_cons, i0, i1, i2, axI, pos, off, tagAt, encQ, opSub, eq_int, h, line_small]
      | false =>
        by_cases h : a.l = sp <;> simp [C.lcTurn, C.wipeR, runDef, S.seq, S.skip, S.brk, S.cont, S.ite, S.asg, S.asgG, S.par, S.svOf, S.setItem, S.append, S.drop, S.aug, S.ret, S.retN, S.for_, C.const, C.varV, C.var, C.un1, C.bin, C.cmp, C.chain, C.ofT, C.test, C.not, C.and, C.or, C.andV, C.orV, C.ifx, C.nil, C.cons, C.star, C.tup, C.lst, C.repL, C.subOwn, C.lenOwn, C.noPart, C.part, C.sl, C.call, C.callO, C.callS, C.callK, C.popOwn, C.walk, C.iter, C.range1, C.range2, C.seqOf, C.enum, C.zip2, C.tgName, C.tgNil, C.tgCons, C.tgTup, C.yes, chk, binOp, cmpOp, cmpI, List.getElem?_cons, i0, i1, i2, axI, pos, off, tagAt, encQ, opSub, eq_int, h, line_small])
  rw [List.map_map]
  exact e
theorem sortB_Q (ps : List (Int × Str)) (hl : ps.length ≤ line) : sortB (ps.map encQ) = true :=
  sortB_map hl (fun a _ b _ => by simp [encQ, PySem.W.alike, PySem.W.alikeAll]) (fun a _ => rfl) fun a _ => by simp [encQ, PyData.depth, PyData.depthAll]
theorem rows_c4 (k : Nat) (qs : List (Int × Str)) (hl : qs.length ≤ 1000) (s0 s1 s2 s3 s4 s5 s6 s7 s9 : SV) :
    l_law_rows_4 k [s0, s1, s2, s3, s4, s5, s6, s7, .un, s9, .own (qs.map encQ)] = some (.list ((qs.map Prod.snd).map .str), [s0, s1, s2, s3, s4, s5, s6, s7, .un, s9, .val (.list (qs.map encQ))]) := by
  have e := lc_enc (enc := encQ) (vs := [8]) (it := C.iter (C.var 10)) (g := C.tgName 8) (t := C.yes) (ex := C.subOwn 8 (C.const (.int 1)))
    (ρ := [s0, s1, s2, s3, s4, s5, s6, s7, .un, s9, .own (qs.map encQ)]) (ρ1 := [s0, s1, s2, s3, s4, s5, s6, s7, .un, s9, .val (.list (qs.map encQ))]) (fs := qs)
    (fun q => true) (fun q => .str q.2) (by simp [runDef, S.seq, S.skip, S.brk, S.cont, S.ite, S.asg, S.asgG, S.par, S.svOf, S.setItem, S.append, S.drop, S.aug, S.ret, S.retN, S.for_, C.const, C.varV, C.var, C.un1, C.bin, C.cmp, C.chain, C.ofT, C.test, C.not, C.and, C.or, C.andV, C.orV, C.ifx, C.nil, C.cons, C.star, C.tup, C.lst, C.repL, C.subOwn, C.lenOwn, C.noPart, C.part, C.sl, C.call, C.callO, C.callS, C.callK, C.popOwn, C.walk, C.iter, C.range1, C.range2, C.seqOf, C.enum, C.zip2, C.tgName, C.tgNil, C.tgCons, C.tgTup, C.yes, chk, binOp, cmpOp, cmpI, List.getElem?_cons]) rfl (by unfold line; omega) (fun q hq => by
      refine ⟨[s0, s1, s2, s3, s4, s5, s6, s7, .val (encQ q), s9, .val (.list (qs.map encQ))], ?_, rfl⟩
      have i1 : item (encQ q) (.int 1) = some (.str q.2) := rfl
      generalize qs.map encQ = QS at *
      simp [C.lcTurn, C.wipeR, runDef, S.seq, S.skip, S.brk, S.cont, S.ite, S.asg, S.asgG, S.par, S.svOf, S.setItem, S.append, S.drop, S.aug, S.ret, S.retN, S.for_, C.const, C.varV, C.var, C.un1, C.bin, C.cmp, C.chain, C.ofT, C.test, C.not, C.and, C.or, C.andV, C.orV, C.ifx, C.nil, C.cons, C.star, C.tup, C.lst, C.repL, C.subOwn, C.lenOwn, C.noPart, C.part, C.sl, C.call, C.callO, C.callS, C.callK, C.popOwn, C.walk, C.iter, C.range1, C.range2, C.seqOf, C.enum, C.zip2, C.tgName, C.tgNil, C.tgCons, C.tgTup, C.yes, chk, binOp, cmpOp, cmpI, List.getElem?_cons, i1])
  rw [List.filter_eq_self.mpr (fun _ _ => rfl)] at e
  rw [List.map_map]
  exact e
theorem rows_c5 (k : Nat) (qs : List (Int × Str)) (hl : qs.length ≤ 1000) (s0 s1 s2 s3 s4 s5 s6 s7 s10 : SV) :
    l_law_rows_5 k [s0, s1, s2, s3, s4, s5, s6, s7, .un, .own (qs.map encQ), s10] = some (.list ((qs.map Prod.snd).map .str), [s0, s1, s2, s3, s4, s5, s6, s7, .un, .val (.list (qs.map encQ)), s10]) := by
  have e := lc_enc (enc := encQ) (vs := [8]) (it := C.iter (C.var 9)) (g := C.tgName 8) (t := C.yes) (ex := C.subOwn 8 (C.const (.int 1)))
    (ρ := [s0, s1, s2, s3, s4, s5, s6, s7, .un, .own (qs.map encQ), s10]) (ρ1 := [s0, s1, s2, s3, s4, s5, s6, s7, .un, .val (.list (qs.map encQ)), s10]) (fs := qs)
    (fun q => true) (fun q => .str q.2) (by simp [runDef, S.seq, S.skip, S.brk, S.cont, S.ite, S.asg, S.asgG, S.par, S.svOf, S.setItem, S.append, S.drop, S.aug, S.ret, S.retN, S.for_, C.const, C.varV, C.var, C.un1, C.bin, C.cmp, C.chain, C.ofT, C.test, C.not, C.and, C.or, C.andV, C.orV, C.ifx, C.nil, C.cons, C.star, C.tup, C.lst, C.repL, C.subOwn, C.lenOwn, C.noPart, C.part, C.sl, C.call, C.callO, C.callS, C.callK, C.popOwn, C.walk, C.iter, C.range1, C.range2, C.seqOf, C.enum, C.zip2, C.tgName, C.tgNil, C.tgCons, C.tgTup, C.yes, chk, binOp, cmpOp, cmpI, List.getElem?_cons]) rfl (by unfold line; omega) (fun q hq => by
      refine ⟨[s0, s1, s2, s3, s4, s5, s6, s7, .val (encQ q), .val (.list (qs.map encQ)), s10], ?_, rfl⟩
      have i1 : item (encQ q) (.int 1) = some (.str q.2) := rfl
      generalize qs.map encQ = QS at *
      simp [C.lcTurn, C.wipeR, runDef, S.seq, S.skip, S.brk, S.cont, S.ite, S.asg, S.asgG, S.par, S.svOf, S.setItem, S.append, S.drop, S.aug, S.ret, S.retN, S.for_, C.const, C.varV, C.var, C.un1, C.bin, C.cmp, C.chain, C.ofT, C.test, C.not, C.and, C.or, C.andV, C.orV, C.ifx, C.nil, C.cons, C.star, C.tup, C.lst, C.repL, C.subOwn, C.lenOwn, C.noPart, C.part, C.sl, C.call, C.callO, C.callS, C.callK, C.popOwn, C.walk, C.iter, C.range1, C.range2, C.seqOf, C.enum, C.zip2, C.tgName, C.tgNil, C.tgCons, C.tgTup, C.yes, chk, binOp, cmpOp, cmpI, List.getElem?_cons, i1])
  rw [List.filter_eq_self.mpr (fun _ _ => rfl)] at e
  rw [List.map_map]
  exact e
theorem rows_ok (k : Nat) (fs : List Ar) (hl : fs.length ≤ 1000) (s : Se) : ∃ xs ys : List Str, (I_law_rows (k + 1)).sem [] [.tuple (fs.map encA), encSe s] = some (.tuple [.tuple (xs.map .str), .tuple (ys.map .str)], []) ∧ (∀ x ∈ xs ++ ys, x ∈ fs.map Ar.t) ∧ xs.length ≤ fs.length ∧ ys.length ≤ fs.length := by
  rw [sem_law_rows]
  obtain ⟨w, sp, lo, hi⟩ := s
  have c1 := rows_c1 k fs hl w lo hi (.val (encSe ⟨w, sp, lo, hi⟩)) (.val (.str (wayS w))) (.val (.int sp)) .un .un .un
  obtain ⟨ns, hns⟩ : ∃ ns, ns = fs.filter fun a => decide (lo ≤ (off w a).1) && decide ((off w a).1 < hi) := ⟨_, rfl⟩
  rw [← hns] at c1
  have hnl : ns.length ≤ fs.length := by rw [hns]; exact List.length_filter_le _ _
  have hnm : ∀ a ∈ ns, a ∈ fs := fun a ha => by rw [hns] at ha; exact (List.mem_filter.mp ha).1
  have c2 := rows_c2 k ns (by omega) w sp (.val (.tuple (fs.map encA))) (.val (encSe ⟨w, sp, lo, hi⟩)) (.val (.str (wayS w))) (.val (.int lo)) (.val (.int hi)) .un .un (.own (ns.map encA)) (.inl rfl)
  obtain ⟨ps, hps⟩ : ∃ ps, ps = (ns.filter fun a => decide (far w a = sp)).map (tagAt w) := ⟨_, rfl⟩
  have hpl : ps.length ≤ ns.length := by rw [hps, List.length_map]; exact List.length_filter_le _ _
  have hpm : ∀ q ∈ ps, q.2 ∈ fs.map Ar.t := fun q hq => by
    rw [hps] at hq
    obtain ⟨a, ha, rfl⟩ := List.mem_map.mp hq
    exact List.mem_map_of_mem (hnm a (List.mem_filter.mp ha).1)
  rw [← hps] at c2
  obtain ⟨ps2, pp, hpp⟩ := sort_map (enc := encQ) ps
  have hso1 : opSorted (.list (ps.map encQ)) = some (.list (ps2.map encQ)) := by
    rw [opSorted_list, sortB_Q ps (by unfold line; omega), hpp]
    rfl
  have c3 := rows_c3 k ns (by omega) w sp (.val (.tuple (fs.map encA))) (.val (encSe ⟨w, sp, lo, hi⟩)) (.val (.str (wayS w))) (.val (.int lo)) (.val (.int hi)) (.own (ps2.map encQ)) .un (.val (.list (ns.map encA))) (.inr rfl)
  obtain ⟨qs, hqs⟩ : ∃ qs, qs = (ns.filter fun a => decide (pos w a = sp)).map (tagAt w) := ⟨_, rfl⟩
  have hql : qs.length ≤ ns.length := by rw [hqs, List.length_map]; exact List.length_filter_le _ _
  have hqm : ∀ q ∈ qs, q.2 ∈ fs.map Ar.t := fun q hq => by
    rw [hqs] at hq
    obtain ⟨a, ha, rfl⟩ := List.mem_map.mp hq
    exact List.mem_map_of_mem (hnm a (List.mem_filter.mp ha).1)
  rw [← hqs] at c3
  obtain ⟨qs2, pq, hpq⟩ := sort_map (enc := encQ) qs
  have hso2 : opSorted (.list (qs.map encQ)) = some (.list (qs2.map encQ)) := by
    rw [opSorted_list, sortB_Q qs (by unfold line; omega), hpq]
    rfl
  have lp := pp.length_eq
  have lq := pq.length_eq
  have c5 := rows_c5 k ps2 (by omega) (.val (.tuple (fs.map encA))) (.val (encSe ⟨w, sp, lo, hi⟩)) (.val (.str (wayS w))) (.val (.int sp)) (.val (.int lo)) (.val (.int hi)) (.val (.int (axI w))) (.val (.list (ns.map encA))) (.own (qs2.map encQ))
  have c4 := rows_c4 k qs2 (by omega) (.val (.tuple (fs.map encA))) (.val (encSe ⟨w, sp, lo, hi⟩)) (.val (.str (wayS w))) (.val (.int sp)) (.val (.int lo)) (.val (.int hi)) (.val (.int (axI w))) (.val (.list (ns.map encA))) (.val (.list (ps2.map encQ)))
  refine ⟨ps2.map Prod.snd, qs2.map Prod.snd, ?_, fun x hx => ?_, by rw [List.length_map]; omega, by rw [List.length_map]; omega⟩
  · have q2 := eq_str ok_level ok_level
    have q3 := eq_str ok_upright ok_level
    have hw1 : ¬ ("upright" : Str) = ("level" : Str) := by decide
    have l1 : ((ps2.map Prod.snd).map PyData.str).length ≤ line := by rw [List.length_map, List.length_map]; unfold line; omega
    have l2 : ((qs2.map Prod.snd).map PyData.str).length ≤ line := by rw [List.length_map, List.length_map]; unfold line; omega
    have hes : encSe ⟨w, sp, lo, hi⟩ = .tuple [.str (wayS w), .int sp, .int lo, .int hi] := rfl
    rw [hes] at c1 c2 c3 c4 c5 ⊢
    clear hes
    generalize (ps2.map Prod.snd).map PyData.str = X at *
    generalize (qs2.map Prod.snd).map PyData.str = Y at *
    generalize ps2.map encQ = P2 at *
    generalize qs2.map encQ = Q2 at *
    generalize ps.map encQ = P1 at *
    generalize qs.map encQ = Q1 at *
    generalize ns.map encA = N at *
    generalize fs.map encA = FS at *
    cases w with
    | true =>
      simp [wayS, axI] at c1 c2 c3 c4 c5
      simp [z_law_rows, runDef, S.seq, S.skip, S.brk, S.cont, S.ite, S.asg, S.asgG, S.par, S.svOf, S.setItem, S.append, S.drop, S.aug, S.ret, S.retN, S.for_, C.const, C.varV, C.var, C.un1, C.bin, C.cmp, C.chain, C.ofT, C.test, C.not, C.and, C.or, C.andV, C.orV, C.ifx, C.nil, C.cons, C.star, C.tup, C.lst, C.repL, C.subOwn, C.lenOwn, C.noPart, C.part, C.sl, C.call, C.callO, C.callS, C.callK, C.popOwn, C.walk, C.iter, C.range1, C.range2, C.seqOf, C.enum, C.zip2, C.tgName, C.tgNil, C.tgCons, C.tgTup, C.yes, chk, binOp, cmpOp, cmpI, List.getElem?_cons, wayS, axI, q2, c1, c2, c3, c4, c5, hso1, hso2, opTuple, l1, l2, line_small]
    | false =>
      simp [wayS, axI] at c1 c2 c3 c4 c5
      simp [z_law_rows, runDef, S.seq, S.skip, S.brk, S.cont, S.ite, S.asg, S.asgG, S.par, S.svOf, S.setItem, S.append, S.drop, S.aug, S.ret, S.retN, S.for_, C.const, C.varV, C.var, C.un1, C.bin, C.cmp, C.chain, C.ofT, C.test, C.not, C.and, C.or, C.andV, C.orV, C.ifx, C.nil, C.cons, C.star, C.tup, C.lst, C.repL, C.subOwn, C.lenOwn, C.noPart, C.part, C.sl, C.call, C.callO, C.callS, C.callK, C.popOwn, C.walk, C.iter, C.range1, C.range2, C.seqOf, C.enum, C.zip2, C.tgName, C.tgNil, C.tgCons, C.tgTup, C.yes, chk, binOp, cmpOp, cmpI, List.getElem?_cons, wayS, axI, q3, hw1, c1, c2, c3, c4, c5, hso1, hso2, opTuple, l1, l2, line_small]
  · rcases List.mem_append.mp hx with h | h
    · obtain ⟨q, hq, rfl⟩ := List.mem_map.mp h
      exact hpm q (pp.mem_iff.mp hq)
    · obtain ⟨q, hq, rfl⟩ := List.mem_map.mp h
      exact hqm q (pq.mem_iff.mp hq)
end K86

set_option maxRecDepth 100000
set_option maxHeartbeats 4000000
/-! The plain law, part 12: the word of a seam. -/
namespace K86
open PySem PySem.Spec L2 Dl
open PyProof.Rows hiding St
theorem take_slice (xs : List Dl.D) : slice (.tuple xs) none (some (-1)) = some (.tuple (xs.take (xs.length - 1))) := by
  show some (PyData.tuple (Dl.cutD xs none (some (-1)))) = _
  unfold Dl.cutD
  congr 2
  have e1 : HT.sIx xs.length 0 none = 0 := rfl
  have e2 : HT.sIx xs.length xs.length (some (-1)) = xs.length - 1 := by unfold HT.sIx; simp; omega
  rw [e1, e2, List.drop_zero]
  rfl
def sgn (b : Bool) : Str := if b then "1" else "2"
def endI (w : Bool) : Int := if w then 3 else 4
def encB (q : Int × Bool) : Dl.D := .tuple [.int q.1, .str (sgn q.2)]
theorem word_c1 (k : Nat) (fs : List Ar) (hl : fs.length ≤ 1000) (tg : Str) (htg : okS tg) (hf : ∀ a ∈ fs, okS a.t) (s1 s2 s3 s4 s5 s8 : SV) :
    l_law_word_1 k [.val (.tuple (fs.map encA)), s1, s2, s3, s4, s5, .val (.str tg), .un, s8] = some (.list ((fs.filter fun a => decide (a.t = tg)).map encA), [.val (.tuple (fs.map encA)), s1, s2, s3, s4, s5, .val (.str tg), .un, s8]) :=
  lc_enc (enc := encA) (vs := [7]) (it := C.iter (C.var 0)) (g := C.tgName 7) (t := (C.cmp (cmpOp .Eq) (C.subOwn 7 (C.const (.int 0))) (C.var 6))) (ex := C.var 7)
    (ρ := [.val (.tuple (fs.map encA)), s1, s2, s3, s4, s5, .val (.str tg), .un, s8]) (ρ1 := [.val (.tuple (fs.map encA)), s1, s2, s3, s4, s5, .val (.str tg), .un, s8]) (fs := fs)
    (fun a => decide (a.t = tg)) encA (by simp [runDef, S.seq, S.skip, S.brk, S.cont, S.ite, S.asg, S.asgG, S.par, S.svOf, S.setItem, S.append, S.drop, S.aug, S.ret, S.retN, S.for_, C.const, C.varV, C.var, C.un1, C.bin, C.cmp, C.chain, C.ofT, C.test, C.not, C.and, C.or, C.andV, C.orV, C.ifx, C.nil, C.cons, C.star, C.tup, C.lst, C.repL, C.subOwn, C.lenOwn, C.noPart, C.part, C.sl, C.call, C.callO, C.callS, C.callK, C.popOwn, C.walk, C.iter, C.range1, C.range2, C.seqOf, C.enum, C.zip2, C.tgName, C.tgNil, C.tgCons, C.tgTup, C.yes, chk, binOp, cmpOp, cmpI, List.getElem?_cons]) rfl (by unfold line; omega) (fun a ha => by
      refine ⟨[.val (.tuple (fs.map encA)), s1, s2, s3, s4, s5, .val (.str tg), .val (encA a), s8], ?_, rfl⟩
      have i0 : item (encA a) (.int 0) = some (.str a.t) := rfl
      have q := eq_str (hf a ha) htg
      generalize fs.map encA = FS at *
      by_cases h : a.t = tg
      · rw [h] at i0 q
        simp [C.lcTurn, C.wipeR, runDef, S.seq, S.skip, S.brk, S.cont, S.ite, S.asg, S.asgG, S.par, S.svOf, S.setItem, S.append, S.drop, S.aug, S.ret, S.retN, S.for_, C.const, C.varV, C.var, C.un1, C.bin, C.cmp, C.chain, C.ofT, C.test, C.not, C.and, C.or, C.andV, C.orV, C.ifx, C.nil, C.cons, C.star, C.tup, C.lst, C.repL, C.subOwn, C.lenOwn, C.noPart, C.part, C.sl, C.call, C.callO, C.callS, C.callK, C.popOwn, C.walk, C.iter, C.range1, C.range2, C.seqOf, C.enum, C.zip2, C.tgName, C.tgNil, C.tgCons, C.tgTup, C.yes, chk, binOp, cmpOp, cmpI, List.getElem?_cons, i0, q, h]
      · simp [C.lcTurn, C.wipeR, runDef, S.seq, S.skip, S.brk, S.cont, S.ite, S.asg, S.asgG, S.par, S.svOf, S.setItem, S.append, S.drop, S.aug, S.ret, S.retN, S.for_, C.const, C.varV, C.var, C.un1, C.bin, C.cmp, C.chain, C.ofT, C.test, C.not, C.and, C.or, C.andV, C.orV, C.ifx, C.nil, C.cons, C.star, C.tup, C.lst, C.repL, C.subOwn, C.lenOwn, C.noPart, C.part, C.sl, C.call, C.callO, C.callS, C.callK, C.popOwn, C.walk, C.iter, C.range1, C.range2, C.seqOf, C.enum, C.zip2, C.tgName, C.tgNil, C.tgCons, C.tgTup, C.yes, chk, binOp, cmpOp, cmpI, List.getElem?_cons, i0, q, h])
theorem word_b2 (k : Nat) (fs : List Ar) (hl : fs.length ≤ 1000) (hf : ∀ a ∈ fs, okS a.t) (w sg : Bool) (xs : List Str) (hx : ∀ x ∈ xs, x ∈ fs.map Ar.t) (hxl : xs.length ≤ 1000) (bs : List (Int × Bool)) (hbl : bs.length ≤ 10000) (s1 s6 s8 : SV) :
    ∃ (bs' : List (Int × Bool)) (s6' : SV), b_law_word_2 k [.val (.tuple (fs.map encA)), s1, .val (.int (endI w)), .own (bs.map encB), .val (.str (sgn sg)), .val (.tuple (xs.map .str)), s6, .un, s8] = some (.nx, [.val (.tuple (fs.map encA)), s1, .val (.int (endI w)), .own (bs'.map encB), .val (.str (sgn sg)), .val (.tuple (xs.map .str)), s6', .un, s8]) ∧ bs'.map Prod.snd = bs.map Prod.snd ++ List.replicate (xs.length - 1) sg := by
  have loop := forL_inv (g := C.tgName 6) (b := b_law_word_1 k) (ds := (xs.take (xs.length - 1)).map PyData.str)
    (fun i ρ => ∃ (bs' : List (Int × Bool)) (s6' : SV), ρ = [.val (.tuple (fs.map encA)), s1, .val (.int (endI w)), .own (bs'.map encB), .val (.str (sgn sg)), .val (.tuple (xs.map .str)), s6', .un, s8] ∧ bs'.map Prod.snd = bs.map Prod.snd ++ List.replicate i sg)
    (fun i d hd ρ ⟨bs1, t6, e, hb⟩ => by
      rw [List.getElem?_map] at hd
      obtain ⟨x, hxi, rfl⟩ := Option.map_eq_some_iff.mp hd
      have hi : i < (xs.take (xs.length - 1)).length := (List.getElem?_eq_some_iff.mp hxi).1
      rw [List.length_take] at hi
      have hxm := hx x (List.mem_of_mem_take (List.mem_of_getElem? hxi))
      obtain ⟨a, ha, hax⟩ := List.mem_map.mp hxm
      have c1 := word_c1 k fs hl x (hax ▸ hf a ha) hf s1 (.val (.int (endI w))) (.own (bs1.map encB)) (.val (.str (sgn sg))) (.val (.tuple (xs.map .str))) s8
      obtain ⟨b, r, hbr⟩ : ∃ b r, (fs.filter fun a => decide (a.t = x)) = b :: r := by
        have : a ∈ fs.filter fun a => decide (a.t = x) := List.mem_filter.mpr ⟨ha, decide_eq_true hax⟩
        cases h : fs.filter fun a => decide (a.t = x) with
        | nil => rw [h] at this; cases this
        | cons b r => exact ⟨b, r, rfl⟩
      rw [hbr] at c1
      have i0 : item (.list ((b :: r).map encA)) (.int 0) = some (encA b) := item_get (i := 0) rfl
      obtain ⟨v, hv⟩ : ∃ v, item (encA b) (.int (endI w)) = some (.int v) := by
        cases w
        · exact ⟨b.b, rfl⟩
        · exact ⟨b.r, rfl⟩
      have hlen : (bs1.map encB).length < line := by
        have := congrArg List.length hb
        simp at this
        rw [List.length_map]; unfold line; omega
      subst e
      refine ⟨[.val (.tuple (fs.map encA)), s1, .val (.int (endI w)), .own (bs1.map encB), .val (.str (sgn sg)), .val (.tuple (xs.map .str)), .val (.str x), .un, s8], [.val (.tuple (fs.map encA)), s1, .val (.int (endI w)), .own ((bs1 ++ [(v, sg)]).map encB), .val (.str (sgn sg)), .val (.tuple (xs.map .str)), .val (.str x), .un, s8], rfl, ?_, bs1 ++ [(v, sg)], _, rfl, ?_⟩
      · rw [List.map_append]
        have hen : [(v, sg)].map encB = [.tuple [.int v, .str (sgn sg)]] := rfl
        rw [hen]
        generalize bs1.map encB = B1 at *
        generalize (b :: r).map encA = R at *
        generalize fs.map encA = FS at *
        generalize xs.map PyData.str = X at *
        simp [b_law_word_1, runDef, S.seq, S.skip, S.brk, S.cont, S.ite, S.asg, S.asgG, S.par, S.svOf, S.setItem, S.append, S.drop, S.aug, S.ret, S.retN, S.for_, C.const, C.varV, C.var, C.un1, C.bin, C.cmp, C.chain, C.ofT, C.test, C.not, C.and, C.or, C.andV, C.orV, C.ifx, C.nil, C.cons, C.star, C.tup, C.lst, C.repL, C.subOwn, C.lenOwn, C.noPart, C.part, C.sl, C.call, C.callO, C.callS, C.callK, C.popOwn, C.walk, C.iter, C.range1, C.range2, C.seqOf, C.enum, C.zip2, C.tgName, C.tgNil, C.tgCons, C.tgTup, C.yes, chk, binOp, cmpOp, cmpI, List.getElem?_cons, c1, i0, hv, hlen, line_small]
      · rw [List.map_append, hb, List.append_assoc, List.replicate_succ']
        rfl)
    (ρ := [.val (.tuple (fs.map encA)), s1, .val (.int (endI w)), .own (bs.map encB), .val (.str (sgn sg)), .val (.tuple (xs.map .str)), s6, .un, s8]) ⟨bs, s6, rfl, by simp⟩
  obtain ⟨ρ', e, bs', s6', rfl, hb⟩ := loop
  refine ⟨bs', s6', ?_, ?_⟩
  · have hsl := take_slice (xs.map .str)
    rw [List.length_map, ← List.map_take] at hsl
    generalize (xs.take (xs.length - 1)).map PyData.str = X1 at *
    generalize bs.map encB = B0 at *
    generalize bs'.map encB = B1 at *
    generalize fs.map encA = FS at *
    generalize xs.map PyData.str = X at *
    have hneg : opNeg (.int 1) = some (.int (-1)) := rfl
    simp [b_law_word_2, runDef, S.seq, S.skip, S.brk, S.cont, S.ite, S.asg, S.asgG, S.par, S.svOf, S.setItem, S.append, S.drop, S.aug, S.ret, S.retN, S.for_, C.const, C.varV, C.var, C.un1, C.bin, C.cmp, C.chain, C.ofT, C.test, C.not, C.and, C.or, C.andV, C.orV, C.ifx, C.nil, C.cons, C.star, C.tup, C.lst, C.repL, C.subOwn, C.lenOwn, C.noPart, C.part, C.sl, C.call, C.callO, C.callS, C.callK, C.popOwn, C.walk, C.iter, C.range1, C.range2, C.seqOf, C.enum, C.zip2, C.tgName, C.tgNil, C.tgCons, C.tgTup, C.yes, chk, binOp, cmpOp, cmpI, List.getElem?_cons, hneg, hsl, e]
  · rw [hb, List.length_map, List.length_take, Nat.min_eq_left (by omega)]
end K86

set_option maxRecDepth 100000
set_option maxHeartbeats 4000000
/-! The plain law, part 13: the whole word of a seam. -/
namespace K86
open PySem PySem.Spec L2 Dl
open PyProof.Rows hiding St
theorem word_c2 (k : Nat) (bs : List (Int × Bool)) (gs : List (Int × Bool)) (hl : gs.length ≤ 1000) (hso : opSorted (.list (bs.map encB)) = some (.list (gs.map encB))) (s0 s1 s2 s4 s5 s6 s7 : SV) :
    ∃ ρ9, l_law_word_2 k [s0, s1, s2, .own (bs.map encB), s4, s5, s6, s7, .un] = some (.list ((gs.map fun q => sgn q.2).map .str), ρ9) := by
  have e := lc_enc (enc := encB) (vs := [8]) (it := C.iter (C.un1 opSorted (C.var 3))) (g := C.tgName 8) (t := C.yes) (ex := C.subOwn 8 (C.const (.int 1)))
    (ρ := [s0, s1, s2, .own (bs.map encB), s4, s5, s6, s7, .un]) (ρ1 := [s0, s1, s2, .val (.list (bs.map encB)), s4, s5, s6, s7, .un]) (fs := gs)
    (fun q => true) (fun q => .str (sgn q.2)) (by simp [runDef, S.seq, S.skip, S.brk, S.cont, S.ite, S.asg, S.asgG, S.par, S.svOf, S.setItem, S.append, S.drop, S.aug, S.ret, S.retN, S.for_, C.const, C.varV, C.var, C.un1, C.bin, C.cmp, C.chain, C.ofT, C.test, C.not, C.and, C.or, C.andV, C.orV, C.ifx, C.nil, C.cons, C.star, C.tup, C.lst, C.repL, C.subOwn, C.lenOwn, C.noPart, C.part, C.sl, C.call, C.callO, C.callS, C.callK, C.popOwn, C.walk, C.iter, C.range1, C.range2, C.seqOf, C.enum, C.zip2, C.tgName, C.tgNil, C.tgCons, C.tgTup, C.yes, chk, binOp, cmpOp, cmpI, List.getElem?_cons, hso]) rfl (by unfold line; omega) (fun q hq => by
      refine ⟨[s0, s1, s2, .val (.list (bs.map encB)), s4, s5, s6, s7, .val (encB q)], ?_, rfl⟩
      have i1 : item (encB q) (.int 1) = some (.str (sgn q.2)) := rfl
      generalize bs.map encB = B at *
      simp [C.lcTurn, C.wipeR, runDef, S.seq, S.skip, S.brk, S.cont, S.ite, S.asg, S.asgG, S.par, S.svOf, S.setItem, S.append, S.drop, S.aug, S.ret, S.retN, S.for_, C.const, C.varV, C.var, C.un1, C.bin, C.cmp, C.chain, C.ofT, C.test, C.not, C.and, C.or, C.andV, C.orV, C.ifx, C.nil, C.cons, C.star, C.tup, C.lst, C.repL, C.subOwn, C.lenOwn, C.noPart, C.part, C.sl, C.call, C.callO, C.callS, C.callK, C.popOwn, C.walk, C.iter, C.range1, C.range2, C.seqOf, C.enum, C.zip2, C.tgName, C.tgNil, C.tgCons, C.tgTup, C.yes, chk, binOp, cmpOp, cmpI, List.getElem?_cons, i1])
  rw [List.filter_eq_self.mpr (fun _ _ => rfl)] at e
  rw [List.map_map]
  exact ⟨_, e⟩
theorem strs_map : ∀ ns : List Str, Dl.strs? (ns.map .str) = some ns
  | [] => rfl
  | n :: r => by
    show (Dl.strs? (r.map .str)).map (n :: ·) = _
    rw [strs_map r]
    rfl
def wordS (bs : List Bool) : Str := Txt.join "" (bs.map sgn)
theorem sgn_len (b : Bool) : (sgn b).length = 1 := by cases b <;> rfl
theorem join_ok (bs : List Bool) (hl : bs.length ≤ 1000) : opJoin (.str "") (.list ((bs.map sgn).map .str)) = some (.str (wordS bs)) := by
  show (match Dl.strs? ((bs.map sgn).map .str) with | some ys => chk (decide ((ys.map Str.length).sum + ys.length * ("" : Str).length ≤ line)) (PyData.str (Txt.join "" ys)) | none => none) = _
  rw [strs_map]
  have h0 : ("" : Str).length = 0 := rfl
  have h1 : ∀ l : List Bool, ((l.map sgn).map Str.length).sum = l.length := fun l => by
    induction l with
    | nil => rfl
    | cons a r ih =>
      rw [List.map_cons, List.map_cons, List.sum_cons, ih, List.length_cons, sgn_len]
      omega
  show chk (decide (((bs.map sgn).map Str.length).sum + (bs.map sgn).length * ("" : Str).length ≤ line)) _ = _
  rw [h1, h0, decide_eq_true (by unfold line; omega)]
  rfl
theorem sortB_B (ps : List (Int × Bool)) (hl : ps.length ≤ line) : sortB (ps.map encB) = true :=
  sortB_map hl (fun a _ b _ => by simp [encB, PySem.W.alike, PySem.W.alikeAll]) (fun a _ => rfl) fun a _ => by simp [encB, PyData.depth, PyData.depthAll]
theorem word_ok (k : Nat) (fs : List Ar) (hl : fs.length ≤ 100) (hf : ∀ a ∈ fs, okS a.t) (s : Se) (xs ys : List Str) (er : (I_law_rows (k + 1)).sem [] [.tuple (fs.map encA), encSe s] = some (.tuple [.tuple (xs.map .str), .tuple (ys.map .str)], [])) (hm : ∀ x ∈ xs ++ ys, x ∈ fs.map Ar.t) (hx : xs.length ≤ fs.length) (hy : ys.length ≤ fs.length) :
    ∃ bs : List Bool, (I_law_word (k + 2)).sem [] [.tuple (fs.map encA), encSe s] = some (.str (wordS bs), []) ∧ bs.Perm (List.replicate (xs.length - 1) true ++ List.replicate (ys.length - 1) false) := by
  rw [sem_law_word]
  obtain ⟨b1, t6, e1, p1⟩ := word_b2 (k + 1) fs (by omega) hf s.w true xs (fun x h => hm x (List.mem_append_left _ h)) (by omega) [] (by simp) (.val (encSe s)) .un .un
  have l1 : b1.length ≤ 100 := by
    have := congrArg List.length p1
    simp at this
    omega
  obtain ⟨b2, u6, e2, p2⟩ := word_b2 (k + 1) fs (by omega) hf s.w false ys (fun x h => hm x (List.mem_append_right _ h)) (by omega) b1 (by omega) (.val (encSe s)) t6 .un
  have l2 : b2.length ≤ 200 := by
    have := congrArg List.length p2
    simp at this
    omega
  obtain ⟨gs, pg, hgs⟩ := sort_map (enc := encB) b2
  have lg := pg.length_eq
  have hso : opSorted (.list (b2.map encB)) = some (.list (gs.map encB)) := by
    rw [opSorted_list, sortB_B b2 (by unfold line; omega), hgs]
    rfl
  obtain ⟨ρ9, c2⟩ := word_c2 (k + 1) b2 gs (by omega) hso (.val (.tuple (fs.map encA))) (.val (encSe s)) (.val (.int (endI s.w))) (.val (.str (sgn false))) (.val (.tuple (ys.map .str))) u6 .un
  have hj := join_ok (gs.map Prod.snd) (by rw [List.length_map]; omega)
  have hgm : (gs.map Prod.snd).map sgn = gs.map fun q => sgn q.2 := by rw [List.map_map]; rfl
  rw [hgm] at hj
  replace hj : opJoin (.str "") (.list ((gs.map fun q => sgn q.2).map .str)) = some (.str (wordS (gs.map Prod.snd))) := hj
  refine ⟨gs.map Prod.snd, ?_, ?_⟩
  · have i0 : item (encSe s) (.int 0) = some (.str (wayS s.w)) := rfl
    have q2 := eq_str ok_level ok_level
    have q3 := eq_str ok_upright ok_level
    have hw1 : ¬ ("upright" : Str) = ("level" : Str) := by decide
    simp only [List.map_nil] at e1
    generalize wordS (gs.map Prod.snd) = W at *
    generalize (gs.map fun q => sgn q.2).map PyData.str = G at *
    generalize xs.map PyData.str = X at *
    generalize ys.map PyData.str = Y at *
    generalize b1.map encB = B1 at *
    generalize b2.map encB = B2 at *
    generalize fs.map encA = FS at *
    generalize encSe s = SE at *
    generalize s.w = w at *
    cases w with
    | true =>
      simp [sgn, endI] at e1 e2 c2
      simp [z_law_word, runDef, S.seq, S.skip, S.brk, S.cont, S.ite, S.asg, S.asgG, S.par, S.svOf, S.setItem, S.append, S.drop, S.aug, S.ret, S.retN, S.for_, C.const, C.varV, C.var, C.un1, C.bin, C.cmp, C.chain, C.ofT, C.test, C.not, C.and, C.or, C.andV, C.orV, C.ifx, C.nil, C.cons, C.star, C.tup, C.lst, C.repL, C.subOwn, C.lenOwn, C.noPart, C.part, C.sl, C.call, C.callO, C.callS, C.callK, C.popOwn, C.walk, C.iter, C.range1, C.range2, C.seqOf, C.enum, C.zip2, C.tgName, C.tgNil, C.tgCons, C.tgTup, C.yes, chk, binOp, cmpOp, cmpI, List.getElem?_cons, i0, wayS, q2, er, C.zipD, S.forL, e1, e2, c2, hj, line_small]
    | false =>
      simp [sgn, endI] at e1 e2 c2
      simp [z_law_word, runDef, S.seq, S.skip, S.brk, S.cont, S.ite, S.asg, S.asgG, S.par, S.svOf, S.setItem, S.append, S.drop, S.aug, S.ret, S.retN, S.for_, C.const, C.varV, C.var, C.un1, C.bin, C.cmp, C.chain, C.ofT, C.test, C.not, C.and, C.or, C.andV, C.orV, C.ifx, C.nil, C.cons, C.star, C.tup, C.lst, C.repL, C.subOwn, C.lenOwn, C.noPart, C.part, C.sl, C.call, C.callO, C.callS, C.callK, C.popOwn, C.walk, C.iter, C.range1, C.range2, C.seqOf, C.enum, C.zip2, C.tgName, C.tgNil, C.tgCons, C.tgTup, C.yes, chk, binOp, cmpOp, cmpI, List.getElem?_cons, i0, wayS, q3, hw1, er, C.zipD, S.forL, e1, e2, c2, hj, line_small]
  · have h1 : (gs.map Prod.snd).Perm (b2.map Prod.snd) := pg.map _
    rw [p2, p1] at h1
    simpa using h1
end K86

set_option maxRecDepth 100000
set_option maxHeartbeats 4000000
/-! The plain law, part 14: the form of a flat. -/
namespace K86
open PySem PySem.Spec L2 Dl
open PyProof.Rows hiding St
/-- a seam of a form: its way, the names before and behind it, its word -/
structure Fm where
  w : Bool
  xs : List Str
  ys : List Str
  bs : List Bool
  deriving DecidableEq
def encF (m : Fm) : Dl.D := .tuple [.str (wayS m.w), .tuple (m.xs.map .str), .tuple (m.ys.map .str), .str (wordS m.bs)]
structure okF (m : Fm) : Prop where
  x : ∀ t ∈ m.xs ++ m.ys, t ∈ poolL
  xl : m.xs.length ≤ 9
  yl : m.ys.length ≤ 9
  p : m.bs.Perm (List.replicate (m.xs.length - 1) true ++ List.replicate (m.ys.length - 1) false)
theorem alike_strs : ∀ (xs ys : List Str), PySem.W.alikeAll (xs.map .str) (ys.map .str) = true
  | [], _ => by rw [List.map_nil, PySem.W.alikeAll]
  | _ :: _, [] => by rw [List.map_nil, List.map_cons, PySem.W.alikeAll]
  | x :: xs, y :: ys => by rw [List.map_cons, List.map_cons, PySem.W.alikeAll, alike_strs xs ys, PySem.W.alike]; rfl
theorem depth_strs : ∀ (xs : List Str), PyData.depthAll (xs.map .str) = 0
  | [] => by simp [PyData.depthAll]
  | x :: xs => by simp [PyData.depthAll, PyData.depth, depth_strs xs]
theorem sortB_F (ps : List Fm) (hl : ps.length ≤ line) : sortB (ps.map encF) = true :=
  sortB_map hl (fun a _ b _ => by simp [encF, PySem.W.alike, PySem.W.alikeAll, alike_strs]) (fun a _ => rfl) fun a _ => by simp [encF, PyData.depth, PyData.depthAll, depth_strs]
theorem rows_lev (j k : Nat) : (I_law_rows (j + 1)).sem = (I_law_rows (k + 1)).sem := by
  rw [sem_law_rows, sem_law_rows]
  rfl
theorem seam_ok (k : Nat) (fs : List Ar) (hl : fs.length ≤ 9) (hp : ∀ a ∈ fs, a.t ∈ poolL) (s : Se) : ∃ m : Fm, okF m ∧ m.w = s.w ∧ (I_law_rows (k + 2)).sem [] [.tuple (fs.map encA), encSe s] = some (.tuple [.tuple (m.xs.map .str), .tuple (m.ys.map .str)], []) ∧ (I_law_word (k + 2)).sem [] [.tuple (fs.map encA), encSe s] = some (.str (wordS m.bs), []) := by
  obtain ⟨xs, ys, e1, hm, hx, hy⟩ := rows_ok k fs (by omega) s
  obtain ⟨bs, e2, p⟩ := word_ok k fs (by omega) (fun a ha => pool_ok _ (hp a ha)) s xs ys e1 hm hx hy
  refine ⟨⟨s.w, xs, ys, bs⟩, ⟨fun t ht => ?_, by show xs.length ≤ 9; omega, by show ys.length ≤ 9; omega, p⟩, rfl, ?_, e2⟩
  · obtain ⟨a, ha, e⟩ := List.mem_map.mp (hm t ht)
    rw [← e]
    exact hp a ha
  · rw [rows_lev (k + 1) k]
    exact e1
theorem shape_ok (k : Nat) (fs : List Ar) (hne : fs ≠ []) (hl : fs.length ≤ 9) (hp : ∀ a ∈ fs, a.t ∈ poolL) : ∃ ms : List Fm, (I_law_shape (k + 3)).sem [] [.tuple (fs.map encA)] = some (.tuple (ms.map encF), []) ∧ (∀ m ∈ ms, okF m) ∧ ms.length ≤ 162 := by
  rw [sem_law_shape]
  obtain ⟨ss, es, hsl⟩ := seams_ok (k + 1) fs hne hl
  replace es : (I_law_seams (k + 2)).sem [] [.tuple (fs.map encA)] = some (.list (ss.map encSe), []) := es
  obtain ⟨F, hF⟩ := Classical.axiomOfChoice (seam_ok k fs hl hp)
  have e := lc_enc (enc := encSe) (vs := [1]) (it := C.iter (C.call (I_law_seams (k + 2)) (C.cons (C.var 0) C.nil))) (g := C.tgName 1) (t := C.yes) (ex := (C.bin (binOp .Add) (C.bin (binOp .Add) (C.tup (C.cons (C.subOwn 1 (C.const (.int 0))) C.nil)) (C.call (I_law_rows (k + 2)) (C.cons (C.var 0) (C.cons (C.var 1) C.nil)))) (C.tup (C.cons (C.call (I_law_word (k + 2)) (C.cons (C.var 0) (C.cons (C.var 1) C.nil))) C.nil))))
    (ρ := [.val (.tuple (fs.map encA)), .un]) (ρ1 := [.val (.tuple (fs.map encA)), .un]) (fs := ss)
    (fun s => true) (fun s => encF (F s)) (by simp [runDef, S.seq, S.skip, S.brk, S.cont, S.ite, S.asg, S.asgG, S.par, S.svOf, S.setItem, S.append, S.drop, S.aug, S.ret, S.retN, S.for_, C.const, C.varV, C.var, C.un1, C.bin, C.cmp, C.chain, C.ofT, C.test, C.not, C.and, C.or, C.andV, C.orV, C.ifx, C.nil, C.cons, C.star, C.tup, C.lst, C.repL, C.subOwn, C.lenOwn, C.noPart, C.part, C.sl, C.call, C.callO, C.callS, C.callK, C.popOwn, C.walk, C.iter, C.range1, C.range2, C.seqOf, C.enum, C.zip2, C.tgName, C.tgNil, C.tgCons, C.tgTup, C.yes, chk, binOp, cmpOp, cmpI, List.getElem?_cons, es]) rfl (by unfold line; omega) (fun s hs => by
      refine ⟨[.val (.tuple (fs.map encA)), .val (encSe s)], ?_, rfl⟩
      obtain ⟨_, hw, er, ew⟩ := hF s
      have i0 : item (encSe s) (.int 0) = some (.str (wayS s.w)) := rfl
      have hen : encF (F s) = .tuple [.str (wayS s.w), .tuple ((F s).xs.map .str), .tuple ((F s).ys.map .str), .str (wordS (F s).bs)] := by rw [← hw]; rfl
      rw [hen]
      generalize (F s).xs.map PyData.str = X at *
      generalize (F s).ys.map PyData.str = Y at *
      generalize wordS (F s).bs = W at *
      generalize fs.map encA = FS at *
      simp [C.lcTurn, C.wipeR, runDef, S.seq, S.skip, S.brk, S.cont, S.ite, S.asg, S.asgG, S.par, S.svOf, S.setItem, S.append, S.drop, S.aug, S.ret, S.retN, S.for_, C.const, C.varV, C.var, C.un1, C.bin, C.cmp, C.chain, C.ofT, C.test, C.not, C.and, C.or, C.andV, C.orV, C.ifx, C.nil, C.cons, C.star, C.tup, C.lst, C.repL, C.subOwn, C.lenOwn, C.noPart, C.part, C.sl, C.call, C.callO, C.callS, C.callK, C.popOwn, C.walk, C.iter, C.range1, C.range2, C.seqOf, C.enum, C.zip2, C.tgName, C.tgNil, C.tgCons, C.tgTup, C.yes, chk, binOp, cmpOp, cmpI, List.getElem?_cons, i0, er, ew, opAdd, line_small])
  rw [List.filter_eq_self.mpr (fun _ _ => rfl)] at e
  obtain ⟨gs, p, hgs⟩ := sort_map (enc := encF) (ss.map F)
  have lg := p.length_eq
  rw [List.length_map] at lg
  have hso : opSorted (.list ((ss.map F).map encF)) = some (.list (gs.map encF)) := by
    rw [opSorted_list, sortB_F (ss.map F) (by rw [List.length_map]; unfold line; omega), hgs]
    rfl
  rw [List.map_map] at hso
  have hl2 : (gs.map encF).length ≤ line := by rw [List.length_map]; unfold line; omega
  refine ⟨gs, ?_, fun m hm => ?_, by omega⟩
  · have c1 : ∃ ρ9, l_law_shape_1 (k + 2) [.val (.tuple (fs.map encA)), .un] = some (.list (ss.map (encF ∘ F)), ρ9) := ⟨_, e⟩
    obtain ⟨ρ9, c1⟩ := c1
    generalize ss.map (encF ∘ F) = A at *
    generalize gs.map encF = G at *
    generalize fs.map encA = FS at *
    simp [z_law_shape, runDef, S.seq, S.skip, S.brk, S.cont, S.ite, S.asg, S.asgG, S.par, S.svOf, S.setItem, S.append, S.drop, S.aug, S.ret, S.retN, S.for_, C.const, C.varV, C.var, C.un1, C.bin, C.cmp, C.chain, C.ofT, C.test, C.not, C.and, C.or, C.andV, C.orV, C.ifx, C.nil, C.cons, C.star, C.tup, C.lst, C.repL, C.subOwn, C.lenOwn, C.noPart, C.part, C.sl, C.call, C.callO, C.callS, C.callK, C.popOwn, C.walk, C.iter, C.range1, C.range2, C.seqOf, C.enum, C.zip2, C.tgName, C.tgNil, C.tgCons, C.tgTup, C.yes, chk, binOp, cmpOp, cmpI, List.getElem?_cons, c1, hso, opTuple, hl2]
  · obtain ⟨s, _, rfl⟩ := List.mem_map.mp (p.mem_iff.mp hm)
    exact (hF s).1
end K86

set_option maxRecDepth 100000
set_option maxHeartbeats 4000000
/-! The plain law, part 15: words. -/
namespace K86
open PySem PySem.Spec L2 Dl
open PyProof.Rows hiding St
def cc (b : Bool) : Nat := if b then 49 else 50
theorem wordS_cps (bs : List Bool) : wordS bs = ⟨(bs.map cc).toArray⟩ := by
  have h : ∀ l : List Bool, Str.join "" (l.map sgn) = ⟨(l.map cc).toArray⟩ := fun l => by
    induction l with
    | nil => rfl
    | cons b r ih =>
      cases r with
      | nil => cases b <;> decide +kernel
      | cons c r =>
        show sgn b ++ ("" : Str) ++ Str.join "" ((c :: r).map sgn) = _
        rw [ih]
        have e : sgn b ++ ("" : Str) = ⟨#[cc b]⟩ := by cases b <;> decide +kernel
        rw [e]
        show (⟨#[cc b] ++ ((c :: r).map cc).toArray⟩ : Str) = _
        simp
  unfold wordS
  rw [← h]
  exact StrLaws.glued_eq_join _ _
theorem wordS_len (bs : List Bool) : (wordS bs).length = bs.length := by
  rw [wordS_cps]
  show (bs.map cc).toArray.size = _
  simp
theorem wordS_app (a b : List Bool) : wordS a ++ wordS b = wordS (a ++ b) := by
  rw [wordS_cps, wordS_cps, wordS_cps]
  show (⟨(a.map cc).toArray ++ (b.map cc).toArray⟩ : Str) = _
  simp
theorem wordS_one (b : Bool) : wordS [b] = sgn b := by cases b <;> decide +kernel
theorem wordS_inj {a b : List Bool} (h : wordS a = wordS b) : a = b := by
  rw [wordS_cps, wordS_cps] at h
  have h2 : (a.map cc) = (b.map cc) := by simpa using h
  exact List.map_inj_right (fun x y e => by cases x <;> cases y <;> first | rfl | (exact absurd e (by decide))) |>.mp h2
end K86

/-! Words as rows of signs: exchanges, and how far two words stand apart. No program in sight. -/
namespace KM
/-- for each true how many falses stand ahead of it, and c more -/
def B : Nat → List Bool → List Nat
  | _, [] => []
  | c, true :: r => c :: B c r
  | c, false :: r => B (c + 1) r
def gap (x y : Nat) : Nat := (x - y) + (y - x)
def dst : List Nat → List Nat → Nat
  | x :: xs, y :: ys => gap x y + dst xs ys
  | _, _ => 0
theorem B_app (c : Nat) (p q : List Bool) : B c (p ++ q) = B c p ++ B (c + p.count false) q := by
  induction p generalizing c with
  | nil => simp [B]
  | cons b r ih => cases b <;> simp [B, ih, Nat.add_assoc, Nat.add_comm 1]
theorem B_len (c : Nat) (p : List Bool) : (B c p).length = p.count true := by
  induction p generalizing c with
  | nil => simp [B]
  | cons b r ih => cases b <;> simp [B, ih]
theorem B_le (c : Nat) (p : List Bool) : ∀ x ∈ B c p, c ≤ x ∧ x ≤ c + p.count false := by
  induction p generalizing c with
  | nil => simp [B]
  | cons b r ih =>
    cases b with
    | true =>
      intro x hx
      simp [B] at hx
      rcases hx with rfl | hx
      · omega
      · have := ih c x hx; simp; omega
    | false =>
      intro x hx
      simp [B] at hx
      have := ih (c + 1) x hx
      simp
      omega
theorem B_shift (c d : Nat) (p : List Bool) : B (c + d) p = (B c p).map (· + d) := by
  induction p generalizing c with
  | nil => simp [B]
  | cons b r ih =>
    cases b with
    | true => simp [B, ih]
    | false =>
      simp only [B]
      rw [← ih (c + 1)]
      congr 1
      omega
theorem dl_self (x : List Nat) : dst x x = 0 := by
  induction x with
  | nil => rfl
  | cons a r ih => simp [dst, gap, ih]
theorem dl_comm (x y : List Nat) : dst x y = dst y x := by
  induction x generalizing y with
  | nil => cases y <;> rfl
  | cons a r ih =>
    cases y with
    | nil => rfl
    | cons b s => simp only [dst, ih s, gap]; omega
/-- one more or one less at one place -/
theorem dl_near (x y z : List Nat) (e : Nat) : dst (x ++ e :: y) z ≤ dst (x ++ (e + 1) :: y) z + 1 ∧ dst (x ++ (e + 1) :: y) z ≤ dst (x ++ e :: y) z + 1 := by
  induction x generalizing z with
  | nil =>
    cases z with
    | nil => simp [dst]
    | cons t s => simp only [List.nil_append, dst, gap]; omega
  | cons a r ih =>
    cases z with
    | nil => simp [dst]
    | cons t s =>
      have := ih s
      simp only [List.cons_append, dst]
      omega
theorem dl_up (x y z : List Nat) (e t : Nat) (h : z[x.length]? = some t) (ht : e < t) : dst (x ++ (e + 1) :: y) z + 1 = dst (x ++ e :: y) z := by
  induction x generalizing z with
  | nil =>
    cases z with
    | nil => simp at h
    | cons a s =>
      simp at h
      subst h
      simp only [List.nil_append, dst, gap]
      omega
  | cons a r ih =>
    cases z with
    | nil => simp at h
    | cons b s =>
      have := ih s (by simpa using h)
      simp only [List.cons_append, dst]
      omega
theorem dl_down (x y z : List Nat) (e t : Nat) (h : z[x.length]? = some t) (ht : t ≤ e) : dst (x ++ e :: y) z + 1 = dst (x ++ (e + 1) :: y) z := by
  induction x generalizing z with
  | nil =>
    cases z with
    | nil => simp at h
    | cons a s =>
      simp at h
      subst h
      simp only [List.nil_append, dst, gap]
      omega
  | cons a r ih =>
    cases z with
    | nil => simp at h
    | cons b s =>
      have := ih s (by simpa using h)
      simp only [List.cons_append, dst]
      omega
/-- one exchange of neighbours -/
def StepW (a a' : List Bool) : Prop := ∃ p x y s, a = p ++ x :: y :: s ∧ x ≠ y ∧ a' = p ++ y :: x :: s
theorem StepW.cons {a a' : List Bool} (b : Bool) (h : StepW a a') : StepW (b :: a) (b :: a') := by
  obtain ⟨p, x, y, s, rfl, h, rfl⟩ := h
  exact ⟨b :: p, x, y, s, rfl, h, rfl⟩
theorem StepW.perm {a a' : List Bool} (h : StepW a a') : a'.Perm a := by
  obtain ⟨p, x, y, s, rfl, h, rfl⟩ := h
  exact (List.Perm.swap x y s).append_left p
theorem B_swap (c : Nat) (p s : List Bool) : ∃ e x y, B c (p ++ true :: false :: s) = x ++ e :: y ∧ B c (p ++ false :: true :: s) = x ++ (e + 1) :: y ∧ x.length = p.count true ∧ e = c + p.count false := by
  refine ⟨c + p.count false, B c p, B (c + p.count false + 1) s, ?_, ?_, B_len c p, rfl⟩
  · rw [B_app]; simp [B]
  · rw [B_app]; simp [B]
theorem StepW.near {a a' : List Bool} (h : StepW a a') (c : Nat) (z : List Nat) : dst (B c a) z ≤ dst (B c a') z + 1 ∧ dst (B c a') z ≤ dst (B c a) z + 1 := by
  obtain ⟨p, x, y, s, rfl, h, rfl⟩ := h
  obtain ⟨e, u, v, e1, e2, _⟩ := B_swap c p s
  cases x <;> cases y
  · exact absurd rfl h
  · rw [e1, e2]; exact ⟨(dl_near u v z e).2, (dl_near u v z e).1⟩
  · rw [e1, e2]; exact dl_near u v z e
  · exact absurd rfl h
/-- the first run -/
theorem run_of (b : Bool) : ∀ (a : List Bool), (!b) ∈ a → ∃ m s, a = List.replicate m b ++ (!b) :: s
  | [], h => by cases h
  | x :: r, h => by
    by_cases hx : x = b
    · subst hx
      have : (!x) ∈ r := by
        rcases List.mem_cons.mp h with h | h
        · cases x <;> cases h
        · exact h
      obtain ⟨m, s, rfl⟩ := run_of x r this
      exact ⟨m + 1, s, rfl⟩
    · have : x = !b := by cases x <;> cases b <;> simp_all
      exact ⟨0, r, by simp [this]⟩
theorem fall (c : Nat) : ∀ (a b : List Bool), a.Perm b → a ≠ b → ∃ a', StepW a a' ∧ dst (B c a') (B c b) + 1 = dst (B c a) (B c b)
  | [], b, p, h => absurd (List.perm_nil.mp p.symm).symm h
  | x :: r, [], p, h => absurd (List.perm_nil.mp p) h
  | x :: r, y :: s, p, h => by
    by_cases e : x = y
    · subst e
      have p' := List.perm_cons x |>.mp p
      have h' : r ≠ s := fun z => h (by rw [z])
      cases x with
      | true =>
        obtain ⟨a', h1, h2⟩ := fall c r s p' h'
        exact ⟨true :: a', h1.cons true, by simp only [B, dst]; omega⟩
      | false =>
        obtain ⟨a', h1, h2⟩ := fall (c + 1) r s p' h'
        exact ⟨false :: a', h1.cons false, by simpa only [B] using h2⟩
    · cases x with
      | true =>
        have hy : y = false := by cases y <;> simp_all
        subst hy
        have hm : (!true) ∈ true :: r := p.mem_iff.mpr (by simp)
        obtain ⟨m, t, ht⟩ := run_of true _ hm
        cases m with
        | zero => simp at ht
        | succ m =>
          have ht' : true :: r = List.replicate m true ++ true :: false :: t := by
            rw [ht, List.replicate_succ']
            simp
          have hc := p.count_eq true
          rw [ht'] at hc ⊢
          obtain ⟨e, u, v, e1, e2, e3, e4⟩ := B_swap c (List.replicate m true) t
          refine ⟨List.replicate m true ++ false :: true :: t, ⟨_, _, _, _, rfl, by simp, rfl⟩, ?_⟩
          rw [e1, e2]
          simp [List.count_replicate] at e3 e4 hc
          have hl : u.length < (B c (false :: s)).length := by rw [B_len]; simp; omega
          refine dl_up u v _ e _ (List.getElem?_eq_getElem hl) ?_
          have := (B_le (c + 1) s) ((B c (false :: s))[u.length]) (by
            have h9 : (B c (false :: s))[u.length] ∈ B c (false :: s) := List.getElem_mem hl
            simpa only [B] using h9)
          omega
      | false =>
        have hy : y = true := by cases y <;> simp_all
        subst hy
        have hm : (!false) ∈ false :: r := p.mem_iff.mpr (by simp)
        obtain ⟨m, t, ht⟩ := run_of false _ hm
        cases m with
        | zero => simp at ht
        | succ m =>
          have ht' : false :: r = List.replicate m false ++ false :: true :: t := by
            rw [ht, List.replicate_succ']
            simp
          rw [ht'] at ⊢
          obtain ⟨e, u, v, e1, e2, e3, e4⟩ := B_swap c (List.replicate m false) t
          refine ⟨List.replicate m false ++ true :: false :: t, ⟨_, _, _, _, rfl, by simp, rfl⟩, ?_⟩
          rw [e1, e2]
          simp at e3 e4
          refine dl_down u v _ e c ?_ (by omega)
          rw [e3]
          simp [B, List.count_replicate]
/-! ### where the signs stand -/
def posB (b : Bool) (bs : List Bool) : List Nat := (List.range bs.length).filter fun i => decide (bs[i]? = some b)
theorem posB_cons (b x : Bool) (r : List Bool) : posB b (x :: r) = (if x = b then [0] else []) ++ (posB b r).map (· + 1) := by
  unfold posB
  rw [List.length_cons, List.range_succ_eq_map, List.filter_cons, List.filter_map]
  have : ((fun i => decide ((x :: r)[i]? = some b)) ∘ Nat.succ) = fun i => decide (r[i]? = some b) := by
    funext i; simp
  rw [this]
  by_cases h : x = b <;> simp [h]
theorem posB_len (b : Bool) (bs : List Bool) : (posB b bs).length = bs.count b := by
  induction bs with
  | nil => rfl
  | cons x r ih =>
    rw [posB_cons, List.length_append, List.length_map, ih, List.count_cons]
    by_cases h : x = b <;> simp [h] <;> omega
theorem B_pos (bs : List Bool) : (posB true bs).map (fun i => (bs.take i).count false) = B 0 bs := by
  induction bs with
  | nil => rfl
  | cons x r ih =>
    rw [posB_cons, List.map_append, List.map_map]
    cases x with
    | true =>
      simp only [B, if_true, ← ih]
      simp
    | false =>
      have := B_shift 0 1 r
      rw [Nat.zero_add] at this
      simp only [B, Nat.zero_add, this, ← ih, List.map_map]
      simp
theorem first_iff (bs : List Bool) : ∀ (k j p q x : Nat), (posB true bs)[k]? = some p → (posB false bs)[j]? = some q → (B 0 bs)[k]? = some x → (p < q ↔ x ≤ j) := by
  induction bs with
  | nil => intro k j p q x h; simp [posB] at h
  | cons b r ih =>
    intro k j p q x h1 h2 h3
    rw [posB_cons] at h1 h2
    cases b with
    | true =>
      simp at h1 h2
      obtain ⟨q', hq, rfl⟩ := h2
      cases k with
      | zero =>
        simp [B] at h1 h3
        omega
      | succ k =>
        simp [B] at h1 h3
        obtain ⟨p', hp, rfl⟩ := h1
        have := ih k j p' q' x hp hq h3
        omega
    | false =>
      simp at h1 h2
      obtain ⟨p', hp, rfl⟩ := h1
      have e := B_shift 0 1 r
      rw [Nat.zero_add] at e
      simp only [B, Nat.zero_add, e, List.getElem?_map] at h3
      obtain ⟨x', hx, rfl⟩ := Option.map_eq_some_iff.mp h3
      cases j with
      | zero => simp at h2; omega
      | succ j =>
        simp at h2
        obtain ⟨q', hq, rfl⟩ := h2
        have := ih k j p' q' x' hp hq hx
        omega
/-- how many of the first T stand between -/
def howMany (T : Nat) (f : Nat → Bool) : Nat := ((List.range T).filter f).length
theorem cnt_succ (T : Nat) (f : Nat → Bool) : howMany (T + 1) f = howMany T f + (if f T then 1 else 0) := by
  unfold howMany
  rw [List.range_succ, List.filter_append, List.length_append]
  congr 1
  by_cases h : f T <;> simp [h]
theorem cnt_ad (x y T : Nat) (hx : x ≤ T) (hy : y ≤ T) : howMany T (fun j => decide (x ≤ j) != decide (y ≤ j)) = gap x y := by
  have key : ∀ T, howMany T (fun j => decide (x ≤ j) != decide (y ≤ j)) = gap (min x T) (min y T) := by
    intro T
    induction T with
    | zero => simp [howMany, gap]
    | succ T ih =>
      rw [cnt_succ, ih]
      by_cases h1 : x ≤ T <;> by_cases h2 : y ≤ T <;> simp [h1, h2, gap] <;> omega
  rw [key, Nat.min_eq_left hx, Nat.min_eq_left hy]
theorem dl_sum (T : Nat) : ∀ (xs ys : List Nat), xs.length = ys.length → (∀ x ∈ xs, x ≤ T) → (∀ y ∈ ys, y ≤ T) → dst xs ys = ((List.range xs.length).map fun k => howMany T (fun j => decide ((xs[k]?.getD 0) ≤ j) != decide ((ys[k]?.getD 0) ≤ j))).sum
  | [], [], _, _, _ => rfl
  | x :: xs, y :: ys, h, h1, h2 => by
    rw [List.length_cons, List.range_succ_eq_map, List.map_cons, List.sum_cons, List.map_map]
    have ih := dl_sum T xs ys (by simpa using h) (fun z hz => h1 z (List.mem_cons_of_mem _ hz)) (fun z hz => h2 z (List.mem_cons_of_mem _ hz))
    simp only [dst, ih]
    rw [← cnt_ad x y T (h1 x List.mem_cons_self) (h2 y List.mem_cons_self)]
    simp
    rfl
end KM

set_option maxRecDepth 100000
set_option maxHeartbeats 4000000
/-! The plain law, part 16: what is done with words. -/
namespace K86
open PySem PySem.Spec L2 Dl KM
open PyProof.Rows hiding St
theorem ones_str (c : Nat) : (⟨#[c]⟩ : Str).cps.toList = [c] := rfl
theorem sgn_cc (b : Bool) : sgn b = ⟨#[cc b]⟩ := by cases b <;> decide +kernel
theorem ok_sgn (b : Bool) : okS (sgn b) := by cases b <;> decide +kernel
theorem eq_sgn (a b : Bool) : opEq (.str (sgn a)) (.str (sgn b)) = some (decide (a = b)) := by
  rw [eq_str (ok_sgn a) (ok_sgn b)]
  congr 1
  cases a <;> cases b <;> decide +kernel
theorem wordS_list (bs : List Bool) : (wordS bs).cps.toList = bs.map cc := by rw [wordS_cps]
theorem okS_word (bs : List Bool) : okS (wordS bs) := by
  unfold okS PyData.strOk
  rw [wordS_cps]
  simp
  exact ⟨fun _ => by decide, fun _ => by decide⟩
theorem w_item {bs : List Bool} {i : Nat} {b : Bool} (h : bs[i]? = some b) (hl : bs.length ≤ 1000) : item (.str (wordS bs)) (.int i) = some (.str (sgn b)) := by
  have hi : i < bs.length := (List.getElem?_eq_some_iff.mp h).1
  show (match decide ((wordS bs).length ≤ line) with | true => (atI (wordS bs).cps.toList (i : Int)).map fun c => PyData.str ⟨#[c]⟩ | false => none) = _
  rw [wordS_len, decide_eq_true (by unfold line; omega), wordS_list]
  obtain ⟨x, h1, h2⟩ := atI_lt (xs := bs.map cc) (i := (i : Int)) (by omega) (by simp; omega)
  rw [h2, sgn_cc]
  rw [Int.toNat_natCast, List.getElem?_map, h] at h1
  simp at h1
  rw [← h1]
  rfl
theorem w_cut (bs : List Bool) (lo hi : Option Int) (hl : bs.length ≤ 1000) : slice (.str (wordS bs)) lo hi = some (.str (wordS ((bs.drop (HT.sIx bs.length 0 lo)).take (HT.sIx bs.length bs.length hi - HT.sIx bs.length 0 lo)))) := by
  show (match decide ((wordS bs).length ≤ line) with | true => some (PyData.str (cutS (wordS bs) lo hi)) | false => none) = _
  rw [wordS_len, decide_eq_true (by unfold line; omega)]
  show some (PyData.str (cutS (wordS bs) lo hi)) = _
  congr 2
  unfold cutS
  rw [wordS_len, wordS_list, wordS_cps, List.map_take, List.map_drop]
theorem w_take (bs : List Bool) (i : Nat) (hl : bs.length ≤ 1000) (hi : i ≤ bs.length) : slice (.str (wordS bs)) none (some (i : Int)) = some (.str (wordS (bs.take i))) := by
  rw [w_cut bs _ _ hl, HT.sIx_nat, HT.sIx_none, List.drop_zero, Nat.sub_zero, Nat.min_eq_left hi]
theorem w_drop (bs : List Bool) (i : Nat) (hl : bs.length ≤ 1000) : slice (.str (wordS bs)) (some (i : Int)) none = some (.str (wordS (bs.drop i))) := by
  rw [w_cut bs _ _ hl, HT.sIx_nat, HT.sIx_none]
  by_cases h : i ≤ bs.length
  · rw [Nat.min_eq_left h, List.take_of_length_le (by simp)]
  · rw [Nat.min_eq_right (by omega), Nat.sub_self, List.take_zero, List.drop_eq_nil_of_le (by omega)]
theorem w_mid (bs : List Bool) (i j : Nat) (hl : bs.length ≤ 1000) (hj : j ≤ bs.length) (hij : i ≤ j) : slice (.str (wordS bs)) (some (i : Int)) (some (j : Int)) = some (.str (wordS ((bs.drop i).take (j - i)))) := by
  rw [w_cut bs _ _ hl, HT.sIx_nat, HT.sIx_nat, Nat.min_eq_left hj, Nat.min_eq_left (by omega)]
theorem w_rev (bs : List Bool) (hl : bs.length ≤ 1000) : opRev (.str (wordS bs)) = some (.str (wordS bs.reverse)) := by
  show chk (decide ((wordS bs).length ≤ line)) (PyData.str ⟨(wordS bs).cps.toList.reverse.toArray⟩) = _
  rw [wordS_len, decide_eq_true (by unfold line; omega), wordS_list, wordS_cps, List.map_reverse]
  rfl
theorem w_lenI (bs : List Bool) (hl : bs.length ≤ 1000) : opLen (.str (wordS bs)) = some (.int bs.length) := by
  show chk (decide ((wordS bs).length ≤ line)) (PyData.int (wordS bs).length) = _
  rw [wordS_len, decide_eq_true (by unfold line; omega)]
  rfl
theorem w_add (a b : List Bool) (h : a.length + b.length ≤ 1000) : opAdd (.str (wordS a)) (.str (wordS b)) = some (.str (wordS (a ++ b))) := by
  show chk (decide ((wordS a).length + (wordS b).length ≤ line)) (PyData.str (wordS a ++ wordS b)) = _
  rw [wordS_len, wordS_len, decide_eq_true (by unfold line; omega), wordS_app]
  rfl
theorem cc_inj (a b : Bool) : (cc a = cc b) ↔ a = b := by cases a <;> cases b <;> decide
theorem w_count (bs : List Bool) (b : Bool) : opCount (.str (wordS bs)) (.str (sgn b)) = some (.int (bs.count b : Nat)) := by
  rw [sgn_cc]
  show some (PyData.int ((wordS bs).cps.toList.count (cc b) : Nat)) = _
  rw [wordS_list]
  congr 3
  induction bs with
  | nil => rfl
  | cons x r ih =>
    rw [List.map_cons, List.count_cons, List.count_cons, ih]
    cases x <;> cases b <;> simp [cc]
/-! ### behind_by -/
def nI (n : Nat) : Dl.D := .int (n : Int)
theorem range_upTo (n : Nat) : C.upTo 0 n = (List.range n).map nI := by
  unfold C.upTo
  refine List.map_congr_left fun i _ => ?_
  show PyData.int (0 + (i : Int)) = .int i
  rw [Int.zero_add]
theorem range1_raw {a : EV} {ρ ρ1 : Rho} {i : Int} (h : a ρ = some (.int i, ρ1)) (hi : in62 i = true) : C.range1 a ρ = some (C.upTo 0 i.toNat, ρ1) := by
  unfold C.range1
  rw [h]
  simp only [hi]
theorem range1_ok {a : EV} {ρ ρ1 : Rho} {n : Nat} (h : a ρ = some (.int (n : Int), ρ1)) (hn : n < 1073741824) : C.range1 a ρ = some ((List.range n).map nI, ρ1) := by
  have h2 : in62 (n : Int) = true := in62_small (Int.natCast_nonneg n) (by omega)
  have e := range1_raw h h2
  rw [Int.toNat_natCast] at e
  rw [e, range_upTo]
theorem behind_ok (k : Nat) (bs : List Bool) (hl : bs.length ≤ 1000) : (I_behind_by (k + 1)).sem [] [.str (wordS bs)] = some (.list ((B 0 bs).map nI), []) := by
  rw [sem_behind_by]
  have e := lc_enc (enc := nI) (vs := [1]) (it := C.range1 (C.lenOwn 0)) (g := C.tgName 1) (t := (C.cmp (cmpOp .Eq) (C.subOwn 0 (C.var 1)) (C.const (.str "1")))) (ex := (C.bin opCount (C.sl (C.var 0) C.noPart (C.part (C.var 1))) (C.const (.str "2"))))
    (ρ := [.val (.str (wordS bs)), .un]) (ρ1 := [.val (.str (wordS bs)), .un]) (fs := List.range bs.length)
    (fun i => decide (bs[i]? = some true)) (fun i => nI ((bs.take i).count false)) (by
      have h1 := w_lenI bs hl
      exact range1_ok (by simp [runDef, S.seq, S.skip, S.brk, S.cont, S.ite, S.asg, S.asgG, S.par, S.svOf, S.setItem, S.append, S.drop, S.aug, S.ret, S.retN, S.for_, C.const, C.varV, C.var, C.un1, C.bin, C.cmp, C.chain, C.ofT, C.test, C.not, C.and, C.or, C.andV, C.orV, C.ifx, C.nil, C.cons, C.star, C.tup, C.lst, C.repL, C.subOwn, C.lenOwn, C.noPart, C.part, C.sl, C.call, C.callO, C.callS, C.callK, C.popOwn, C.walk, C.iter, C.range1, C.range2, C.seqOf, C.enum, C.zip2, C.tgName, C.tgNil, C.tgCons, C.tgTup, C.yes, chk, binOp, cmpOp, cmpI, List.getElem?_cons, h1]) (by omega)) rfl (by rw [List.length_range]; unfold line; omega) (fun i hi => by
      refine ⟨[.val (.str (wordS bs)), .val (nI i)], ?_, rfl⟩
      have hi' : i < bs.length := List.mem_range.mp hi
      obtain ⟨b, hb⟩ : ∃ b, bs[i]? = some b := ⟨_, List.getElem?_eq_getElem hi'⟩
      have h1 := w_item hb hl
      have h2 := eq_sgn b true
      have h3 := w_take bs i hl (by omega)
      have h4 := w_count (bs.take i) false
      have s1 : sgn true = "1" := rfl
      have s2 : sgn false = "2" := rfl
      rw [s1] at h2
      rw [s2] at h4
      rw [hb]
      cases b
      · simp [C.lcTurn, C.wipeR, runDef, S.seq, S.skip, S.brk, S.cont, S.ite, S.asg, S.asgG, S.par, S.svOf, S.setItem, S.append, S.drop, S.aug, S.ret, S.retN, S.for_, C.const, C.varV, C.var, C.un1, C.bin, C.cmp, C.chain, C.ofT, C.test, C.not, C.and, C.or, C.andV, C.orV, C.ifx, C.nil, C.cons, C.star, C.tup, C.lst, C.repL, C.subOwn, C.lenOwn, C.noPart, C.part, C.sl, C.call, C.callO, C.callS, C.callK, C.popOwn, C.walk, C.iter, C.range1, C.range2, C.seqOf, C.enum, C.zip2, C.tgName, C.tgNil, C.tgCons, C.tgTup, C.yes, chk, binOp, cmpOp, cmpI, List.getElem?_cons, nI, h1, h2]
      · simp [C.lcTurn, C.wipeR, runDef, S.seq, S.skip, S.brk, S.cont, S.ite, S.asg, S.asgG, S.par, S.svOf, S.setItem, S.append, S.drop, S.aug, S.ret, S.retN, S.for_, C.const, C.varV, C.var, C.un1, C.bin, C.cmp, C.chain, C.ofT, C.test, C.not, C.and, C.or, C.andV, C.orV, C.ifx, C.nil, C.cons, C.star, C.tup, C.lst, C.repL, C.subOwn, C.lenOwn, C.noPart, C.part, C.sl, C.call, C.callO, C.callS, C.callK, C.popOwn, C.walk, C.iter, C.range1, C.range2, C.seqOf, C.enum, C.zip2, C.tgName, C.tgNil, C.tgCons, C.tgTup, C.yes, chk, binOp, cmpOp, cmpI, List.getElem?_cons, nI, h1, h2, h3, h4])
  have e2 : ((List.range bs.length).filter fun i => decide (bs[i]? = some true)).map (fun i => nI ((bs.take i).count false)) = (B 0 bs).map nI := by
    rw [← B_pos, List.map_map]
    rfl
  rw [e2] at e
  have c1 : l_behind_by_1 k [.val (.str (wordS bs)), .un] = _ := e
  generalize (B 0 bs).map nI = BB at *
  simp [z_behind_by, runDef, S.seq, S.skip, S.brk, S.cont, S.ite, S.asg, S.asgG, S.par, S.svOf, S.setItem, S.append, S.drop, S.aug, S.ret, S.retN, S.for_, C.const, C.varV, C.var, C.un1, C.bin, C.cmp, C.chain, C.ofT, C.test, C.not, C.and, C.or, C.andV, C.orV, C.ifx, C.nil, C.cons, C.star, C.tup, C.lst, C.repL, C.subOwn, C.lenOwn, C.noPart, C.part, C.sl, C.call, C.callO, C.callS, C.callK, C.popOwn, C.walk, C.iter, C.range1, C.range2, C.seqOf, C.enum, C.zip2, C.tgName, C.tgNil, C.tgCons, C.tgTup, C.yes, chk, binOp, cmpOp, cmpI, List.getElem?_cons, c1]
end K86

set_option maxRecDepth 100000
set_option maxHeartbeats 4000000
/-! The plain law, part 17: forms, their neighbours, how far two of them stand apart. No program in sight. -/
namespace K86
open PySem PySem.Spec L2 Dl KM
open PyProof.Rows hiding St
abbrev Form := List Fm
def setB (m : Fm) (bs : List Bool) : Fm := ⟨m.w, m.xs, m.ys, bs⟩
def like (m m' : Fm) : Prop := m.w = m'.w ∧ m.xs = m'.xs ∧ m.ys = m'.ys ∧ m.bs.Perm m'.bs
def Kin : Form → Form → Prop
  | [], [] => True
  | m :: u, m' :: v => like m m' ∧ Kin u v
  | _, _ => False
def dF : Form → Form → Nat
  | m :: u, m' :: v => dst (B 0 m.bs) (B 0 m'.bs) + dF u v
  | _, _ => 0
def StepF (u u' : Form) : Prop := ∃ u1 m u2 b', u = u1 ++ m :: u2 ∧ StepW m.bs b' ∧ u' = u1 ++ setB m b' :: u2
theorem like.refl (m : Fm) : like m m := ⟨rfl, rfl, rfl, List.Perm.refl _⟩
theorem like.symm {m m' : Fm} (h : like m m') : like m' m := ⟨h.1.symm, h.2.1.symm, h.2.2.1.symm, h.2.2.2.symm⟩
theorem like.trans {m m' m'' : Fm} (h : like m m') (h' : like m' m'') : like m m'' := ⟨h.1.trans h'.1, h.2.1.trans h'.2.1, h.2.2.1.trans h'.2.2.1, h.2.2.2.trans h'.2.2.2⟩
theorem Kin.refl : ∀ u : Form, Kin u u
  | [] => trivial
  | m :: u => ⟨like.refl m, Kin.refl u⟩
theorem Kin.symm : ∀ {u v : Form}, Kin u v → Kin v u
  | [], [], _ => trivial
  | m :: u, m' :: v, h => ⟨h.1.symm, h.2.symm⟩
theorem Kin.trans : ∀ {u v w : Form}, Kin u v → Kin v w → Kin u w
  | [], [], [], _, _ => trivial
  | m :: u, m' :: v, m'' :: w, h, h' => ⟨h.1.trans h'.1, h.2.trans h'.2⟩
theorem Kin.len : ∀ {u v : Form}, Kin u v → u.length = v.length
  | [], [], _ => rfl
  | m :: u, m' :: v, h => by rw [List.length_cons, List.length_cons, h.2.len]
theorem StepF.cons (m : Fm) {u u' : Form} (h : StepF u u') : StepF (m :: u) (m :: u') := by
  obtain ⟨u1, n, u2, b', rfl, h, rfl⟩ := h
  exact ⟨m :: u1, n, u2, b', rfl, h, rfl⟩
theorem StepF.kin {u u' : Form} (h : StepF u u') : Kin u' u := by
  obtain ⟨u1, n, u2, b', rfl, h, rfl⟩ := h
  induction u1 with
  | nil => exact ⟨⟨rfl, rfl, rfl, h.perm⟩, Kin.refl _⟩
  | cons m r ih => exact ⟨like.refl m, ih⟩
theorem StepF.near {u u' : Form} (h : StepF u u') : ∀ v, dF u v ≤ dF u' v + 1 ∧ dF u' v ≤ dF u v + 1 := by
  obtain ⟨u1, n, u2, b', rfl, h, rfl⟩ := h
  induction u1 with
  | nil =>
    intro v
    cases v with
    | nil => simp [dF]
    | cons m' v =>
      have := h.near 0 (B 0 m'.bs)
      simp only [List.nil_append, dF, setB]
      omega
  | cons m r ih =>
    intro v
    cases v with
    | nil => simp [dF]
    | cons m' v =>
      have := ih v
      simp only [List.cons_append, dF]
      omega
theorem dF_self : ∀ u : Form, dF u u = 0
  | [] => rfl
  | m :: u => by simp only [dF, dl_self, dF_self u]
theorem dF_comm : ∀ u v : Form, dF u v = dF v u
  | [], [] => rfl
  | [], _ :: _ => rfl
  | _ :: _, [] => rfl
  | m :: u, m' :: v => by simp only [dF, dF_comm u v, dl_comm]
theorem Fm_ext {m m' : Fm} (h : like m m') (hb : m.bs = m'.bs) : m = m' := by
  obtain ⟨w, xs, ys, bs⟩ := m
  obtain ⟨w', xs', ys', bs'⟩ := m'
  obtain ⟨h1, h2, h3, _⟩ := h
  simp at h1 h2 h3 hb
  simp [h1, h2, h3, hb]
theorem fallF : ∀ {u v : Form}, Kin u v → u ≠ v → ∃ u', StepF u u' ∧ dF u' v + 1 = dF u v
  | [], [], _, h => absurd rfl h
  | m :: u, m' :: v, hk, h => by
    by_cases hb : m.bs = m'.bs
    · have e := Fm_ext hk.1 hb
      subst e
      obtain ⟨u', h1, h2⟩ := fallF hk.2 (fun z => h (by rw [z]))
      exact ⟨m :: u', h1.cons m, by simp only [dF]; omega⟩
    · obtain ⟨b', h1, h2⟩ := fall 0 _ _ hk.1.2.2.2 hb
      exact ⟨setB m b' :: u, ⟨[], m, u, b', rfl, h1, rfl⟩, by simp only [dF, setB]; omega⟩
theorem dF_zero {u v : Form} (hk : Kin u v) (h : dF u v = 0) : u = v := by
  by_cases e : u = v
  · exact e
  · obtain ⟨u', _, h2⟩ := fallF hk e
    omega
/-! ### all neighbours, in the program's order -/
def swL (u : Form) (p : Nat) (m : Fm) (i : Nat) : List Form := match m.bs.drop i with
  | x :: y :: s => if x = y then [] else [u.take p ++ setB m (m.bs.take i ++ y :: x :: s) :: u.drop (p + 1)]
  | _ => []
def nextAt (u : Form) (p : Nat) : List Form := match u[p]? with
  | some m => (List.range (m.bs.length - 1)).flatMap (swL u p m)
  | none => []
def nextFs (u : Form) : List Form := (List.range u.length).flatMap (nextAt u)
theorem mem_next {u v : Form} : v ∈ nextFs u ↔ StepF u v := by
  unfold nextFs
  rw [List.mem_flatMap]
  constructor
  · rintro ⟨p, hp, h⟩
    have hp' := List.mem_range.mp hp
    have hm : u[p]? = some u[p] := List.getElem?_eq_getElem hp'
    unfold nextAt at h
    rw [hm] at h
    simp only [List.mem_flatMap] at h
    obtain ⟨i, hi, h⟩ := h
    unfold swL at h
    split at h
    · rename_i x y s hd
      split at h
      · cases h
      · rename_i hxy
        rw [List.mem_singleton] at h
        refine ⟨u.take p, u[p], u.drop (p + 1), _, ?_, ⟨u[p].bs.take i, x, y, s, ?_, hxy, rfl⟩, h⟩
        · rw [List.getElem_cons_drop, List.take_append_drop]
        · rw [← hd, List.take_append_drop]
    · cases h
  · rintro ⟨u1, m, u2, b', rfl, ⟨q, x, y, s, hb, hxy, rfl⟩, rfl⟩
    refine ⟨u1.length, List.mem_range.mpr (by simp), ?_⟩
    have hm : (u1 ++ m :: u2)[u1.length]? = some m := by simp
    unfold nextAt
    rw [hm]
    simp only [List.mem_flatMap]
    refine ⟨q.length, List.mem_range.mpr (by rw [hb]; simp), ?_⟩
    unfold swL
    have hd : m.bs.drop q.length = x :: y :: s := by rw [hb]; simp
    rw [hd]
    have ht : m.bs.take q.length = q := by rw [hb]; simp
    simp [hxy, ht]
/-! ### sound words for the program's own limits -/
structure okM (m : Fm) : Prop where
  x : ∀ t ∈ m.xs, okS t
  y : ∀ t ∈ m.ys, okS t
  xl : m.xs.length ≤ 100
  yl : m.ys.length ≤ 100
  bl : m.bs.length ≤ 16
def okU (u : Form) : Prop := (∀ m ∈ u, okM m) ∧ u.length ≤ 200
theorem okM.like {m m' : Fm} (h : okM m) (hl : like m m') : okM m' := by
  obtain ⟨h1, h2, h3, h4⟩ := hl
  exact ⟨h2 ▸ h.x, h3 ▸ h.y, h2 ▸ h.xl, h3 ▸ h.yl, by rw [← h4.length_eq]; exact h.bl⟩
theorem Kin.mem : ∀ {u v : Form}, Kin u v → ∀ m' ∈ v, ∃ m ∈ u, like m m'
  | [], [], _, _, h => by cases h
  | m :: u, n :: v, hk, m', h => by
    rcases List.mem_cons.mp h with rfl | h
    · exact ⟨m, List.mem_cons_self, hk.1⟩
    · obtain ⟨m0, h1, h2⟩ := hk.2.mem m' h
      exact ⟨m0, List.mem_cons_of_mem _ h1, h2⟩
theorem okU.kin {u v : Form} (h : okU u) (hk : Kin u v) : okU v := by
  refine ⟨fun m' hm => ?_, by rw [← hk.len]; exact h.2⟩
  obtain ⟨m, h1, h2⟩ := hk.mem m' hm
  exact (h.1 m h1).like h2
theorem dF_le : ∀ {u v : Form}, okU u → Kin u v → dF u v ≤ u.length * 256
  | [], [], _, _ => by simp [dF]
  | m :: u, m' :: v, h, hk => by
    have ih := dF_le (u := u) (v := v) ⟨fun n hn => h.1 n (List.mem_cons_of_mem _ hn), by have := h.2; simp at this; omega⟩ hk.2
    have hm := h.1 m List.mem_cons_self
    have hp := hk.1.2.2.2
    have key : ∀ (n : Nat) (xs ys : List Nat), (∀ x ∈ xs, x ≤ n) → (∀ y ∈ ys, y ≤ n) → dst xs ys ≤ xs.length * n := by
      intro n xs
      induction xs with
      | nil => intro ys _ _; simp [dst]
      | cons a r ih =>
        intro ys h1 h2
        cases ys with
        | nil => simp [dst]
        | cons b s =>
          have := ih s (fun z hz => h1 z (List.mem_cons_of_mem _ hz)) (fun z hz => h2 z (List.mem_cons_of_mem _ hz))
          have ha := h1 a List.mem_cons_self
          have hb := h2 b List.mem_cons_self
          simp only [dst, gap, List.length_cons, Nat.succ_mul]
          omega
    have hc : ∀ (bs : List Bool), bs.length ≤ 16 → ∀ x ∈ B 0 bs, x ≤ 16 := fun bs hl x hx => by
      have := (B_le 0 bs x hx).2
      have := List.count_le_length (l := bs) (a := false)
      omega
    have h1 := key 16 (B 0 m.bs) (B 0 m'.bs) (hc _ hm.bl) (hc _ (by rw [← hp.length_eq]; exact hm.bl))
    have h2 : (B 0 m.bs).length ≤ 16 := by
      rw [B_len]
      have := List.count_le_length (l := m.bs) (a := true)
      have := hm.bl
      omega
    have h3 : (B 0 m.bs).length * 16 ≤ 16 * 16 := Nat.mul_le_mul_right _ h2
    simp only [dF, List.length_cons, Nat.succ_mul]
    omega
end K86

set_option maxRecDepth 100000
set_option maxHeartbeats 4000000
/-! The plain law, part 18: forms as data: their shapes, when two are equal. -/
namespace K86
open PySem PySem.Spec L2 Dl KM
open PyProof.Rows hiding St
def encU (u : Form) : Dl.D := .tuple (u.map encF)
def softF (m : Fm) : Dl.D := .list [.str (wayS m.w), .list (m.xs.map .str), .list (m.ys.map .str), .str (wordS m.bs)]
def softU (u : Form) : Dl.D := .list (u.map softF)
theorem can_strs {xs : List Str} (h : ∀ t ∈ xs, okS t) : PyData.canLayAll0 (xs.map .str) = true := by
  rw [canAll_eq, List.all_eq_true]
  intro d hd
  obtain ⟨t, ht, rfl⟩ := List.mem_map.mp hd
  exact h t ht
theorem ok_way (w : Bool) : okS (wayS w) := by cases w <;> decide +kernel
theorem way_inj {w w' : Bool} : (wayS w = wayS w') ↔ w = w' := by cases w <;> cases w' <;> decide +kernel
theorem F_can {m : Fm} (h : okM m) : (encF m).canLay0 = true ∧ (encF m).depth ≤ 2 := by
  have h1 := can_strs h.x
  have h2 := can_strs h.y
  have h3 := ok_way m.w
  have h4 := okS_word m.bs
  constructor
  · simp [encF, PyData.canLay0, PyData.canLayAll0, h1, h2, h3, h4]
  · simp [encF, PyData.depth, PyData.depthAll, depth_strs]
theorem F_can' {m : Fm} (h : okM m) : (softF m).canLay0 = true ∧ (softF m).depth ≤ 2 := by
  have h1 := can_strs h.x
  have h2 := can_strs h.y
  have h3 := ok_way m.w
  have h4 := okS_word m.bs
  constructor
  · simp [softF, PyData.canLay0, PyData.canLayAll0, h1, h2, h3, h4]
  · simp [softF, PyData.depth, PyData.depthAll, depth_strs]
theorem can_tup {n : Nat} {ds : List Dl.D} (h : ∀ d ∈ ds, d.canLay0 = true ∧ d.depth ≤ n) : (PyData.tuple ds).canLay0 = true ∧ (PyData.tuple ds).depth ≤ n + 1 := by
  constructor
  · show PyData.canLayAll0 ds = true
    rw [canAll_eq, List.all_eq_true]
    exact fun d hd => (h d hd).1
  · exact Nat.succ_le_succ (depthAll_le fun d hd => (h d hd).2)
theorem can_list {n : Nat} {ds : List Dl.D} (h : ∀ d ∈ ds, d.canLay0 = true ∧ d.depth ≤ n) : (PyData.list ds).canLay0 = true ∧ (PyData.list ds).depth ≤ n + 1 := by
  constructor
  · show PyData.canLayAll0 ds = true
    rw [canAll_eq, List.all_eq_true]
    exact fun d hd => (h d hd).1
  · exact Nat.succ_le_succ (depthAll_le fun d hd => (h d hd).2)
theorem shp_of {d : Dl.D} {n : Nat} (h : d.canLay0 = true ∧ d.depth ≤ n) (hn : n ≤ 64) : shp d = true := by
  unfold shp SeqAt.shaped
  rw [h.1, decide_eq_true (by omega)]
  rfl
theorem U_can {u : Form} (h : okU u) : (encU u).canLay0 = true ∧ (encU u).depth ≤ 3 := can_tup fun d hd => by
  obtain ⟨m, hm, rfl⟩ := List.mem_map.mp hd
  exact F_can (h.1 m hm)
theorem U_can' {u : Form} (h : okU u) : (softU u).canLay0 = true ∧ (softU u).depth ≤ 3 := can_list fun d hd => by
  obtain ⟨m, hm, rfl⟩ := List.mem_map.mp hd
  exact F_can' (h.1 m hm)
theorem shpU {u : Form} (h : okU u) : shp (encU u) = true := shp_of (U_can h) (by omega)
theorem shpU' {u : Form} (h : okU u) : shp (softU u) = true := shp_of (U_can' h) (by omega)
theorem W_can {us : List Form} (h : ∀ u ∈ us, okU u) : (PyData.tuple (us.map encU)).canLay0 = true ∧ (PyData.tuple (us.map encU)).depth ≤ 4 := can_tup fun d hd => by
  obtain ⟨u, hu, rfl⟩ := List.mem_map.mp hd
  exact U_can (h u hu)
theorem L_can {us : List Form} (h : ∀ u ∈ us, okU u) : (PyData.list (us.map encU)).canLay0 = true ∧ (PyData.list (us.map encU)).depth ≤ 4 := can_list fun d hd => by
  obtain ⟨u, hu, rfl⟩ := List.mem_map.mp hd
  exact U_can (h u hu)
/-! equal -/
theorem eqv_strs : ∀ xs ys : List Str, PyData.eqvAll (xs.map .str) (ys.map .str) = decide (xs = ys)
  | [], [] => by simp [PyData.eqvAll]
  | [], _ :: _ => by simp [PyData.eqvAll]
  | _ :: _, [] => by simp [PyData.eqvAll]
  | x :: xs, y :: ys => by
    rw [List.map_cons, List.map_cons, PyData.eqvAll, eqv_strs xs ys, eqv_str]
    by_cases h : x = y <;> by_cases h' : xs = ys <;> simp [h, h']
theorem wordS_iff {a b : List Bool} : (wordS a = wordS b) ↔ a = b := ⟨wordS_inj, fun h => by rw [h]⟩
theorem Fm_eq {m m' : Fm} : m = m' ↔ m.w = m'.w ∧ m.xs = m'.xs ∧ m.ys = m'.ys ∧ m.bs = m'.bs := by
  obtain ⟨w, xs, ys, bs⟩ := m
  obtain ⟨w', xs', ys', bs'⟩ := m'
  simp
theorem eqv_F (m m' : Fm) : PyData.eqv (encF m) (encF m') = decide (m = m') := by
  have e : (m = m') ↔ (wayS m.w = wayS m'.w ∧ m.xs = m'.xs ∧ m.ys = m'.ys ∧ wordS m.bs = wordS m'.bs) := by rw [Fm_eq, way_inj, wordS_iff]
  have e2 : decide (m = m') = decide (wayS m.w = wayS m'.w ∧ m.xs = m'.xs ∧ m.ys = m'.ys ∧ wordS m.bs = wordS m'.bs) := decide_eq_decide.mpr e
  rw [e2]
  simp only [encF, PyData.eqv, PyData.eqvAll, eqv_strs]
  by_cases h1 : wayS m.w = wayS m'.w <;> by_cases h2 : m.xs = m'.xs <;> by_cases h3 : m.ys = m'.ys <;> by_cases h4 : wordS m.bs = wordS m'.bs <;> simp [h1, h2, h3, h4]
theorem eqv_Fs : ∀ u v : Form, PyData.eqvAll (u.map encF) (v.map encF) = decide (u = v)
  | [], [] => by simp [PyData.eqvAll]
  | [], _ :: _ => by simp [PyData.eqvAll]
  | _ :: _, [] => by simp [PyData.eqvAll]
  | x :: xs, y :: ys => by
    rw [List.map_cons, List.map_cons, PyData.eqvAll, eqv_Fs xs ys, eqv_F]
    by_cases h : x = y <;> by_cases h' : xs = ys <;> simp [h, h']
theorem eqv_U (u v : Form) : PyData.eqv (encU u) (encU v) = decide (u = v) := by
  show PyData.eqv (.tuple (u.map encF)) (.tuple (v.map encF)) = _
  rw [PyData.eqv, eqv_Fs]
theorem eq_U {u v : Form} (hu : okU u) (hv : okU v) : opEq (encU u) (encU v) = some (decide (u = v)) := by
  unfold opEq
  rw [shpU hu, shpU hv, eqv_U]
  rfl
theorem in_U {u : Form} {gs : List Form} (hu : okU u) (hg : ∀ g ∈ gs, okU g) : opIn (encU u) (.list (gs.map encU)) = some (decide (u ∈ gs)) := by
  show (match shp (encU u) && shp (.list (gs.map encU)) with | true => some ((gs.map encU).any fun z => PyData.eqv z (encU u)) | false => none) = _
  rw [shpU hu, shp_of (L_can hg) (by omega)]
  show some _ = some _
  congr 1
  rw [List.any_map]
  by_cases h : u ∈ gs
  · rw [decide_eq_true h, List.any_eq_true]
    exact ⟨u, h, by show PyData.eqv (encU u) (encU u) = true; rw [eqv_U]; simp⟩
  · rw [decide_eq_false h, List.any_eq_false]
    intro g hg
    show ¬ PyData.eqv (encU g) (encU u) = true
    rw [eqv_U]
    simp
    exact fun z => h (z ▸ hg)
theorem eq_soft {u v : Form} (hu : okU u) (hv : okU v) : opEq (softU u) (encU v) = some false := by
  unfold opEq
  rw [shpU' hu, shpU hv]
  rfl
/-! slices of tuples -/
theorem t_take (xs : List Dl.D) (n : Nat) : slice (.tuple xs) none (some (n : Int)) = some (.tuple (xs.take n)) := by
  show some (PyData.tuple (Dl.cutD xs none (some (n : Int)))) = _
  unfold Dl.cutD
  congr 2
  rw [HT.sIx_nat, HT.sIx_none, List.drop_zero, Nat.sub_zero]
  by_cases h : n ≤ xs.length
  · rw [Nat.min_eq_left h]
  · rw [Nat.min_eq_right (by omega), List.take_of_length_le (Nat.le_refl _), List.take_of_length_le (by omega)]
theorem t_drop (xs : List Dl.D) (n : Nat) : slice (.tuple xs) (some (n : Int)) none = some (.tuple (xs.drop n)) := by
  show some (PyData.tuple (Dl.cutD xs (some (n : Int)) none)) = _
  unfold Dl.cutD
  congr 2
  rw [HT.sIx_nat, HT.sIx_none]
  by_cases h : n ≤ xs.length
  · rw [Nat.min_eq_left h, List.take_of_length_le (by simp)]
  · rw [List.drop_eq_nil_of_le (by omega), List.drop_eq_nil_of_le (by omega)]
    simp
theorem titem_get {xs : List Dl.D} {i : Nat} {d : Dl.D} (h : xs[i]? = some d) : item (.tuple xs) (.int i) = some d := item_get (xs := xs) h
end K86

set_option maxRecDepth 100000
set_option maxHeartbeats 4000000
/-! The plain law, part 19: tupled, lists, the kinds. -/
namespace K86
open PySem PySem.Spec L2 Dl KM
open PyProof.Rows hiding St
theorem tup_str (k : Nat) (s : Str) : (I_tupled (k + 1)).sem [] [.str s] = some (.str s, []) := by
  rw [sem_tupled]
  simp [z_tupled, runDef, S.seq, S.skip, S.brk, S.cont, S.ite, S.asg, S.asgG, S.par, S.svOf, S.setItem, S.append, S.drop, S.aug, S.ret, S.retN, S.for_, C.const, C.varV, C.var, C.un1, C.bin, C.cmp, C.chain, C.ofT, C.test, C.not, C.and, C.or, C.andV, C.orV, C.ifx, C.nil, C.cons, C.star, C.tup, C.lst, C.repL, C.subOwn, C.lenOwn, C.noPart, C.part, C.sl, C.call, C.callO, C.callS, C.callK, C.popOwn, C.walk, C.iter, C.range1, C.range2, C.seqOf, C.enum, C.zip2, C.tgName, C.tgNil, C.tgCons, C.tgTup, C.yes, chk, binOp, cmpOp, cmpI, List.getElem?_cons, isTys, isTy, truth]
theorem tup_map (k : Nat) {α : Type} (as : List α) (e1 e2 : α → Dl.D) (hl : as.length ≤ 100000) (h : ∀ a ∈ as, (I_tupled (k + 1)).sem [] [e1 a] = some (e2 a, [])) {d : Dl.D} (hd : d = .list (as.map e1) ∨ d = .tuple (as.map e1)) : (I_tupled (k + 2)).sem [] [d] = some (.tuple (as.map e2), []) := by
  rw [sem_tupled]
  have hit : C.iter (C.var 0) [.val d, .un] = some (as.map e1, [.val d, .un]) := by rcases hd with rfl | rfl <;> simp [runDef, S.seq, S.skip, S.brk, S.cont, S.ite, S.asg, S.asgG, S.par, S.svOf, S.setItem, S.append, S.drop, S.aug, S.ret, S.retN, S.for_, C.const, C.varV, C.var, C.un1, C.bin, C.cmp, C.chain, C.ofT, C.test, C.not, C.and, C.or, C.andV, C.orV, C.ifx, C.nil, C.cons, C.star, C.tup, C.lst, C.repL, C.subOwn, C.lenOwn, C.noPart, C.part, C.sl, C.call, C.callO, C.callS, C.callK, C.popOwn, C.walk, C.iter, C.range1, C.range2, C.seqOf, C.enum, C.zip2, C.tgName, C.tgNil, C.tgCons, C.tgTup, C.yes, chk, binOp, cmpOp, cmpI, List.getElem?_cons]
  have e := lc_enc (enc := e1) (vs := [1]) (it := C.iter (C.var 0)) (g := C.tgName 1) (t := C.yes) (ex := C.call (I_tupled (k + 1)) (C.cons (C.var 1) C.nil))
    (ρ := [.val d, .un]) (ρ1 := [.val d, .un]) (fs := as) (fun _ => true) e2 hit rfl (by unfold line; omega) (fun a ha => by
      refine ⟨[.val d, .val (e1 a)], ?_, rfl⟩
      have h1 := h a ha
      simp [C.lcTurn, C.wipeR, runDef, S.seq, S.skip, S.brk, S.cont, S.ite, S.asg, S.asgG, S.par, S.svOf, S.setItem, S.append, S.drop, S.aug, S.ret, S.retN, S.for_, C.const, C.varV, C.var, C.un1, C.bin, C.cmp, C.chain, C.ofT, C.test, C.not, C.and, C.or, C.andV, C.orV, C.ifx, C.nil, C.cons, C.star, C.tup, C.lst, C.repL, C.subOwn, C.lenOwn, C.noPart, C.part, C.sl, C.call, C.callO, C.callS, C.callK, C.popOwn, C.walk, C.iter, C.range1, C.range2, C.seqOf, C.enum, C.zip2, C.tgName, C.tgNil, C.tgCons, C.tgTup, C.yes, chk, binOp, cmpOp, cmpI, List.getElem?_cons, h1])
  rw [List.filter_eq_self.mpr (fun _ _ => rfl)] at e
  have c1 : l_tupled_1 (k + 1) [.val d, .un] = _ := e
  have ty : isTys [.list, .tuple] d = true := by rcases hd with rfl | rfl <;> rfl
  generalize as.map e2 = A at *
  simp [z_tupled, runDef, S.seq, S.skip, S.brk, S.cont, S.ite, S.asg, S.asgG, S.par, S.svOf, S.setItem, S.append, S.drop, S.aug, S.ret, S.retN, S.for_, C.const, C.varV, C.var, C.un1, C.bin, C.cmp, C.chain, C.ofT, C.test, C.not, C.and, C.or, C.andV, C.orV, C.ifx, C.nil, C.cons, C.star, C.tup, C.lst, C.repL, C.subOwn, C.lenOwn, C.noPart, C.part, C.sl, C.call, C.callO, C.callS, C.callK, C.popOwn, C.walk, C.iter, C.range1, C.range2, C.seqOf, C.enum, C.zip2, C.tgName, C.tgNil, C.tgCons, C.tgTup, C.yes, chk, binOp, cmpOp, cmpI, List.getElem?_cons, c1, ty, truth, opTuple]
theorem tup_strs (k : Nat) (xs : List Str) (hl : xs.length ≤ 1000) {d : Dl.D} (hd : d = .list (xs.map .str) ∨ d = .tuple (xs.map .str)) : (I_tupled (k + 2)).sem [] [d] = some (.tuple (xs.map .str), []) :=
  tup_map k xs PyData.str PyData.str (by omega) (fun s _ => tup_str k s) hd
theorem tup_F (k : Nat) {m : Fm} (h : okM m) {d : Dl.D} (hd : d = softF m ∨ d = encF m) : (I_tupled (k + 3)).sem [] [d] = some (encF m, []) := by
  have h1 := fun d' hd' => tup_strs k m.xs (by have := h.xl; omega) (d := d') hd'
  have h2 := fun d' hd' => tup_strs k m.ys (by have := h.yl; omega) (d := d') hd'
  have hx := h.xl
  rcases hd with rfl | rfl
  · exact tup_map (k + 1) [(PyData.str (wayS m.w), PyData.str (wayS m.w)), (PyData.list (m.xs.map .str), PyData.tuple (m.xs.map .str)), (PyData.list (m.ys.map .str), PyData.tuple (m.ys.map .str)), (PyData.str (wordS m.bs), PyData.str (wordS m.bs))] Prod.fst Prod.snd (by simp) (fun a ha => by
      simp at ha
      rcases ha with rfl | rfl | rfl | rfl
      · exact tup_str _ _
      · exact h1 _ (.inl rfl)
      · exact h2 _ (.inl rfl)
      · exact tup_str _ _) (.inl rfl)
  · exact tup_map (k + 1) [(PyData.str (wayS m.w), PyData.str (wayS m.w)), (PyData.tuple (m.xs.map .str), PyData.tuple (m.xs.map .str)), (PyData.tuple (m.ys.map .str), PyData.tuple (m.ys.map .str)), (PyData.str (wordS m.bs), PyData.str (wordS m.bs))] Prod.fst Prod.snd (by simp) (fun a ha => by
      simp at ha
      rcases ha with rfl | rfl | rfl | rfl
      · exact tup_str _ _
      · exact h1 _ (.inr rfl)
      · exact h2 _ (.inr rfl)
      · exact tup_str _ _) (.inr rfl)
theorem tup_U (k : Nat) {u : Form} (h : okU u) {d : Dl.D} (hd : d = softU u ∨ d = encU u) : (I_tupled (k + 4)).sem [] [d] = some (encU u, []) := by
  have hl := h.2
  rcases hd with rfl | rfl
  · exact tup_map (k + 2) u softF encF (by omega) (fun m hm => tup_F k (h.1 m hm) (.inl rfl)) (.inl rfl)
  · exact tup_map (k + 2) u encF encF (by omega) (fun m hm => tup_F k (h.1 m hm) (.inr rfl)) (.inr rfl)
/-! ### the same as lists -/
theorem lst_str (k : Nat) (s : Str) : (I_law_lists (k + 1)).sem [] [.str s] = some (.str s, []) := by
  rw [sem_law_lists]
  simp [z_law_lists, runDef, S.seq, S.skip, S.brk, S.cont, S.ite, S.asg, S.asgG, S.par, S.svOf, S.setItem, S.append, S.drop, S.aug, S.ret, S.retN, S.for_, C.const, C.varV, C.var, C.un1, C.bin, C.cmp, C.chain, C.ofT, C.test, C.not, C.and, C.or, C.andV, C.orV, C.ifx, C.nil, C.cons, C.star, C.tup, C.lst, C.repL, C.subOwn, C.lenOwn, C.noPart, C.part, C.sl, C.call, C.callO, C.callS, C.callK, C.popOwn, C.walk, C.iter, C.range1, C.range2, C.seqOf, C.enum, C.zip2, C.tgName, C.tgNil, C.tgCons, C.tgTup, C.yes, chk, binOp, cmpOp, cmpI, List.getElem?_cons, isTys, isTy, truth]
theorem lst_map (k : Nat) {α : Type} (as : List α) (e1 e2 : α → Dl.D) (hl : as.length ≤ 100000) (h : ∀ a ∈ as, (I_law_lists (k + 1)).sem [] [e1 a] = some (e2 a, [])) {d : Dl.D} (hd : d = .list (as.map e1) ∨ d = .tuple (as.map e1)) : (I_law_lists (k + 2)).sem [] [d] = some (.list (as.map e2), []) := by
  rw [sem_law_lists]
  have hit : C.iter (C.var 0) [.val d, .un] = some (as.map e1, [.val d, .un]) := by rcases hd with rfl | rfl <;> simp [runDef, S.seq, S.skip, S.brk, S.cont, S.ite, S.asg, S.asgG, S.par, S.svOf, S.setItem, S.append, S.drop, S.aug, S.ret, S.retN, S.for_, C.const, C.varV, C.var, C.un1, C.bin, C.cmp, C.chain, C.ofT, C.test, C.not, C.and, C.or, C.andV, C.orV, C.ifx, C.nil, C.cons, C.star, C.tup, C.lst, C.repL, C.subOwn, C.lenOwn, C.noPart, C.part, C.sl, C.call, C.callO, C.callS, C.callK, C.popOwn, C.walk, C.iter, C.range1, C.range2, C.seqOf, C.enum, C.zip2, C.tgName, C.tgNil, C.tgCons, C.tgTup, C.yes, chk, binOp, cmpOp, cmpI, List.getElem?_cons]
  have e := lc_enc (enc := e1) (vs := [1]) (it := C.iter (C.var 0)) (g := C.tgName 1) (t := C.yes) (ex := C.call (I_law_lists (k + 1)) (C.cons (C.var 1) C.nil))
    (ρ := [.val d, .un]) (ρ1 := [.val d, .un]) (fs := as) (fun _ => true) e2 hit rfl (by unfold line; omega) (fun a ha => by
      refine ⟨[.val d, .val (e1 a)], ?_, rfl⟩
      have h1 := h a ha
      simp [C.lcTurn, C.wipeR, runDef, S.seq, S.skip, S.brk, S.cont, S.ite, S.asg, S.asgG, S.par, S.svOf, S.setItem, S.append, S.drop, S.aug, S.ret, S.retN, S.for_, C.const, C.varV, C.var, C.un1, C.bin, C.cmp, C.chain, C.ofT, C.test, C.not, C.and, C.or, C.andV, C.orV, C.ifx, C.nil, C.cons, C.star, C.tup, C.lst, C.repL, C.subOwn, C.lenOwn, C.noPart, C.part, C.sl, C.call, C.callO, C.callS, C.callK, C.popOwn, C.walk, C.iter, C.range1, C.range2, C.seqOf, C.enum, C.zip2, C.tgName, C.tgNil, C.tgCons, C.tgTup, C.yes, chk, binOp, cmpOp, cmpI, List.getElem?_cons, h1])
  rw [List.filter_eq_self.mpr (fun _ _ => rfl)] at e
  have c1 : l_law_lists_1 (k + 1) [.val d, .un] = _ := e
  have ty : isTys [.list, .tuple] d = true := by rcases hd with rfl | rfl <;> rfl
  generalize as.map e2 = A at *
  simp [z_law_lists, runDef, S.seq, S.skip, S.brk, S.cont, S.ite, S.asg, S.asgG, S.par, S.svOf, S.setItem, S.append, S.drop, S.aug, S.ret, S.retN, S.for_, C.const, C.varV, C.var, C.un1, C.bin, C.cmp, C.chain, C.ofT, C.test, C.not, C.and, C.or, C.andV, C.orV, C.ifx, C.nil, C.cons, C.star, C.tup, C.lst, C.repL, C.subOwn, C.lenOwn, C.noPart, C.part, C.sl, C.call, C.callO, C.callS, C.callK, C.popOwn, C.walk, C.iter, C.range1, C.range2, C.seqOf, C.enum, C.zip2, C.tgName, C.tgNil, C.tgCons, C.tgTup, C.yes, chk, binOp, cmpOp, cmpI, List.getElem?_cons, c1, ty, truth]
theorem lst_strs (k : Nat) (xs : List Str) (hl : xs.length ≤ 1000) {d : Dl.D} (hd : d = .list (xs.map .str) ∨ d = .tuple (xs.map .str)) : (I_law_lists (k + 2)).sem [] [d] = some (.list (xs.map .str), []) :=
  lst_map k xs PyData.str PyData.str (by omega) (fun s _ => lst_str k s) hd
theorem lst_F (k : Nat) {m : Fm} (h : okM m) : (I_law_lists (k + 3)).sem [] [encF m] = some (softF m, []) := by
  have h1 := fun d' hd' => lst_strs k m.xs (by have := h.xl; omega) (d := d') hd'
  have h2 := fun d' hd' => lst_strs k m.ys (by have := h.yl; omega) (d := d') hd'
  exact lst_map (k + 1) [(PyData.str (wayS m.w), PyData.str (wayS m.w)), (PyData.tuple (m.xs.map .str), PyData.list (m.xs.map .str)), (PyData.tuple (m.ys.map .str), PyData.list (m.ys.map .str)), (PyData.str (wordS m.bs), PyData.str (wordS m.bs))] Prod.fst Prod.snd (by simp) (fun a ha => by
      simp at ha
      rcases ha with rfl | rfl | rfl | rfl
      · exact lst_str _ _
      · exact h1 _ (.inr rfl)
      · exact h2 _ (.inr rfl)
      · exact lst_str _ _) (.inr rfl)
theorem lst_U (k : Nat) {u : Form} (h : okU u) : (I_law_lists (k + 4)).sem [] [encU u] = some (softU u, []) := by
  have hl := h.2
  exact lst_map (k + 2) u encF softF (by omega) (fun m hm => lst_F k (h.1 m hm)) (.inr rfl)
theorem lst_W (k : Nat) {us : List Form} (h : ∀ u ∈ us, okU u) (hl : us.length ≤ 100000) : (I_law_lists (k + 5)).sem [] [.tuple (us.map encU)] = some (.list (us.map softU), []) :=
  lst_map (k + 3) us encU softU hl (fun u hu => lst_U k (h u hu)) (.inr rfl)
/-! ### kinds -/
def kindF (m : Fm) : Dl.D := .tuple [.str (wayS m.w), .tuple (m.xs.map .str), .tuple (m.ys.map .str)]
def kindD (u : Form) : Dl.D := .tuple (u.map kindF)
theorem kind_eq : ∀ {u v : Form}, Kin u v → kindD u = kindD v
  | [], [], _ => rfl
  | m :: u, m' :: v, h => by
    have ih := kind_eq h.2
    unfold kindD at ih ⊢
    rw [List.map_cons, List.map_cons]
    injection ih with ih
    rw [ih]
    have : kindF m = kindF m' := by
      unfold kindF
      rw [h.1.1, h.1.2.1, h.1.2.2.1]
    rw [this]
theorem eqv_kF (m : Fm) : PyData.eqv (kindF m) (kindF m) = true := by
  simp [kindF, PyData.eqv, PyData.eqvAll, eqv_strs]
theorem eqv_kind : ∀ u : Form, PyData.eqv (kindD u) (kindD u) = true := by
  intro u
  show PyData.eqv (.tuple (u.map kindF)) (.tuple (u.map kindF)) = true
  rw [PyData.eqv]
  induction u with
  | nil => simp [PyData.eqvAll]
  | cons m u ih => rw [List.map_cons, PyData.eqvAll, ih, eqv_kF]; rfl
theorem shp_kind {u : Form} (h : okU u) : shp (kindD u) = true := by
  refine shp_of (n := 3) (can_tup fun d hd => ?_) (by omega)
  obtain ⟨m, hm, rfl⟩ := List.mem_map.mp hd
  have h1 := can_strs (h.1 m hm).x
  have h2 := can_strs (h.1 m hm).y
  have h3 := ok_way m.w
  constructor
  · simp [kindF, PyData.canLay0, PyData.canLayAll0, h1, h2, h3]
  · simp [kindF, PyData.depth, PyData.depthAll, depth_strs]
theorem kinds_c1 (k : Nat) {u : Form} (h : okU u) {d : Dl.D} (hT : (I_tupled k).sem [] [d] = some (encU u, [])) (s0 s1 s4 : SV) :
    l_check_kinds_1 k [s0, s1, .un, .val d, s4] = some (.list (u.map kindF), [s0, s1, .un, .val d, s4]) := by
  have hl := h.2
  have e := lc_enc (enc := encF) (vs := [2]) (it := C.iter (C.call (I_tupled k) (C.cons (C.var 3) C.nil))) (g := C.tgName 2) (t := C.yes) (ex := C.sl (C.var 2) C.noPart (C.part (C.const (.int 3))))
    (ρ := [s0, s1, .un, .val d, s4]) (ρ1 := [s0, s1, .un, .val d, s4]) (fs := u) (fun _ => true) kindF (by simp [runDef, S.seq, S.skip, S.brk, S.cont, S.ite, S.asg, S.asgG, S.par, S.svOf, S.setItem, S.append, S.drop, S.aug, S.ret, S.retN, S.for_, C.const, C.varV, C.var, C.un1, C.bin, C.cmp, C.chain, C.ofT, C.test, C.not, C.and, C.or, C.andV, C.orV, C.ifx, C.nil, C.cons, C.star, C.tup, C.lst, C.repL, C.subOwn, C.lenOwn, C.noPart, C.part, C.sl, C.call, C.callO, C.callS, C.callK, C.popOwn, C.walk, C.iter, C.range1, C.range2, C.seqOf, C.enum, C.zip2, C.tgName, C.tgNil, C.tgCons, C.tgTup, C.yes, chk, binOp, cmpOp, cmpI, List.getElem?_cons, hT, encU]) rfl (by unfold line; omega) (fun m hm => by
      refine ⟨[s0, s1, .val (encF m), .val d, s4], ?_, rfl⟩
      have h1 : slice (encF m) none (some 3) = some (kindF m) := rfl
      simp [C.lcTurn, C.wipeR, runDef, S.seq, S.skip, S.brk, S.cont, S.ite, S.asg, S.asgG, S.par, S.svOf, S.setItem, S.append, S.drop, S.aug, S.ret, S.retN, S.for_, C.const, C.varV, C.var, C.un1, C.bin, C.cmp, C.chain, C.ofT, C.test, C.not, C.and, C.or, C.andV, C.orV, C.ifx, C.nil, C.cons, C.star, C.tup, C.lst, C.repL, C.subOwn, C.lenOwn, C.noPart, C.part, C.sl, C.call, C.callO, C.callS, C.callK, C.popOwn, C.walk, C.iter, C.range1, C.range2, C.seqOf, C.enum, C.zip2, C.tgName, C.tgNil, C.tgCons, C.tgTup, C.yes, chk, binOp, cmpOp, cmpI, List.getElem?_cons, h1])
  rw [List.filter_eq_self.mpr (fun _ _ => rfl)] at e
  exact e
theorem bools_false : ∀ n : Nat, bools? (List.replicate n (PyData.bool false)) = some (List.replicate n false)
  | 0 => rfl
  | n + 1 => by
    show (bools? (List.replicate n (PyData.bool false))).map (false :: ·) = _
    rw [bools_false n]
    rfl
theorem check_ok (k : Nat) (ps : List (Dl.D × Form)) (u0 : Form) (hne : ps ≠ []) (hpl : ps.length ≤ 100) (h0 : okU u0) (hT : ∀ p ∈ ps, (I_tupled k).sem [] [p.1] = some (encU p.2, [])) (hk : ∀ p ∈ ps, Kin u0 p.2) :
    (I_check_kinds (k + 1)).sem [] [.tuple (ps.map Prod.fst)] = some (.none, []) := by
  rw [sem_check_kinds]
  have e2 := lc_enc (enc := Prod.fst) (vs := [3]) (it := C.iter (C.var 0)) (g := C.tgName 3) (t := C.yes) (ex := C.un1 opTuple (l_check_kinds_1 k))
    (ρ := [.val (.tuple (ps.map Prod.fst)), .un, .un, .un, .un]) (ρ1 := [.val (.tuple (ps.map Prod.fst)), .un, .un, .un, .un]) (fs := ps) (fun _ => true) (fun _ => kindD u0) (by simp [runDef, S.seq, S.skip, S.brk, S.cont, S.ite, S.asg, S.asgG, S.par, S.svOf, S.setItem, S.append, S.drop, S.aug, S.ret, S.retN, S.for_, C.const, C.varV, C.var, C.un1, C.bin, C.cmp, C.chain, C.ofT, C.test, C.not, C.and, C.or, C.andV, C.orV, C.ifx, C.nil, C.cons, C.star, C.tup, C.lst, C.repL, C.subOwn, C.lenOwn, C.noPart, C.part, C.sl, C.call, C.callO, C.callS, C.callK, C.popOwn, C.walk, C.iter, C.range1, C.range2, C.seqOf, C.enum, C.zip2, C.tgName, C.tgNil, C.tgCons, C.tgTup, C.yes, chk, binOp, cmpOp, cmpI, List.getElem?_cons]) rfl (by unfold line; omega) (fun p hp => by
      refine ⟨[.val (.tuple (ps.map Prod.fst)), .un, .un, .val p.1, .un], ?_, rfl⟩
      have h1 := kinds_c1 k (h0.kin (hk p hp)) (hT p hp) (.val (.tuple (ps.map Prod.fst))) .un .un
      have h2 : kindD u0 = .tuple (p.2.map kindF) := kind_eq (hk p hp)
      rw [h2]
      generalize p.2.map kindF = A at *
      generalize ps.map Prod.fst = P at *
      simp [C.lcTurn, C.wipeR, runDef, S.seq, S.skip, S.brk, S.cont, S.ite, S.asg, S.asgG, S.par, S.svOf, S.setItem, S.append, S.drop, S.aug, S.ret, S.retN, S.for_, C.const, C.varV, C.var, C.un1, C.bin, C.cmp, C.chain, C.ofT, C.test, C.not, C.and, C.or, C.andV, C.orV, C.ifx, C.nil, C.cons, C.star, C.tup, C.lst, C.repL, C.subOwn, C.lenOwn, C.noPart, C.part, C.sl, C.call, C.callO, C.callS, C.callK, C.popOwn, C.walk, C.iter, C.range1, C.range2, C.seqOf, C.enum, C.zip2, C.tgName, C.tgNil, C.tgCons, C.tgTup, C.yes, chk, binOp, cmpOp, cmpI, List.getElem?_cons, h1, opTuple])
  rw [List.filter_eq_self.mpr (fun _ _ => rfl)] at e2
  have c2 : l_check_kinds_2 k [.val (.tuple (ps.map Prod.fst)), .un, .un, .un, .un] = some (.list (List.replicate ps.length (kindD u0)), [.val (.tuple (ps.map Prod.fst)), .un, .un, .un, .un]) := by
    have : ps.map (fun _ => kindD u0) = List.replicate ps.length (kindD u0) := List.map_const' ..
    rw [← this]
    exact e2
  have hq : opEq (kindD u0) (kindD u0) = some true := by
    unfold opEq
    rw [shp_kind h0, eqv_kind]
    rfl
  have e3 := lc_enc (enc := fun _ : Nat => kindD u0) (vs := [4]) (it := C.iter (C.var 1)) (g := C.tgName 4) (t := C.yes) (ex := C.ofT (C.cmp (cmpOp .NotEq) (C.var 4) (C.subOwn 1 (C.const (.int 0)))))
    (ρ := [.val (.tuple (ps.map Prod.fst)), .own (List.replicate ps.length (kindD u0)), .un, .un, .un]) (ρ1 := [.val (.tuple (ps.map Prod.fst)), .val (.list (List.replicate ps.length (kindD u0))), .un, .un, .un]) (fs := List.range ps.length) (fun _ => true) (fun _ => .bool false) (by
      have : (List.range ps.length).map (fun _ => kindD u0) = List.replicate ps.length (kindD u0) := by rw [List.map_const', List.length_range]
      rw [this]
      simp [runDef, S.seq, S.skip, S.brk, S.cont, S.ite, S.asg, S.asgG, S.par, S.svOf, S.setItem, S.append, S.drop, S.aug, S.ret, S.retN, S.for_, C.const, C.varV, C.var, C.un1, C.bin, C.cmp, C.chain, C.ofT, C.test, C.not, C.and, C.or, C.andV, C.orV, C.ifx, C.nil, C.cons, C.star, C.tup, C.lst, C.repL, C.subOwn, C.lenOwn, C.noPart, C.part, C.sl, C.call, C.callO, C.callS, C.callK, C.popOwn, C.walk, C.iter, C.range1, C.range2, C.seqOf, C.enum, C.zip2, C.tgName, C.tgNil, C.tgCons, C.tgTup, C.yes, chk, binOp, cmpOp, cmpI, List.getElem?_cons]) rfl (by rw [List.length_range]; unfold line; omega) (fun p hp => by
      refine ⟨[.val (.tuple (ps.map Prod.fst)), .val (.list (List.replicate ps.length (kindD u0))), .un, .un, .val (kindD u0)], ?_, rfl⟩
      have hpp := List.mem_range.mp hp
      have h1 : item (.list (List.replicate ps.length (kindD u0))) (.int 0) = some (kindD u0) := item_get (i := 0) (by rw [List.getElem?_replicate, if_pos (by omega)])
      generalize List.replicate ps.length (kindD u0) = R at *
      generalize ps.map Prod.fst = P at *
      simp [C.lcTurn, C.wipeR, runDef, S.seq, S.skip, S.brk, S.cont, S.ite, S.asg, S.asgG, S.par, S.svOf, S.setItem, S.append, S.drop, S.aug, S.ret, S.retN, S.for_, C.const, C.varV, C.var, C.un1, C.bin, C.cmp, C.chain, C.ofT, C.test, C.not, C.and, C.or, C.andV, C.orV, C.ifx, C.nil, C.cons, C.star, C.tup, C.lst, C.repL, C.subOwn, C.lenOwn, C.noPart, C.part, C.sl, C.call, C.callO, C.callS, C.callK, C.popOwn, C.walk, C.iter, C.range1, C.range2, C.seqOf, C.enum, C.zip2, C.tgName, C.tgNil, C.tgCons, C.tgTup, C.yes, chk, binOp, cmpOp, cmpI, List.getElem?_cons, h1, hq])
  rw [List.filter_eq_self.mpr (fun _ _ => rfl)] at e3
  have c3 : l_check_kinds_3 k [.val (.tuple (ps.map Prod.fst)), .own (List.replicate ps.length (kindD u0)), .un, .un, .un] = some (.list (List.replicate ps.length (.bool false)), [.val (.tuple (ps.map Prod.fst)), .val (.list (List.replicate ps.length (kindD u0))), .un, .un, .un]) := by
    have : (List.range ps.length).map (fun _ => PyData.bool false) = List.replicate ps.length (.bool false) := by rw [List.map_const', List.length_range]
    rw [← this]
    exact e3
  have hany : opAny (.list (List.replicate ps.length (.bool false))) = some (.bool false) := by
    show (bools? (List.replicate ps.length (PyData.bool false))).map (fun bs => PyData.bool (bs.any id)) = _
    rw [bools_false]
    simp
  generalize List.replicate ps.length (PyData.bool false) = FF at *
  generalize List.replicate ps.length (kindD u0) = R at *
  generalize ps.map Prod.fst = P at *
  simp [z_check_kinds, runDef, S.seq, S.skip, S.brk, S.cont, S.ite, S.asg, S.asgG, S.par, S.svOf, S.setItem, S.append, S.drop, S.aug, S.ret, S.retN, S.for_, C.const, C.varV, C.var, C.un1, C.bin, C.cmp, C.chain, C.ofT, C.test, C.not, C.and, C.or, C.andV, C.orV, C.ifx, C.nil, C.cons, C.star, C.tup, C.lst, C.repL, C.subOwn, C.lenOwn, C.noPart, C.part, C.sl, C.call, C.callO, C.callS, C.callK, C.popOwn, C.walk, C.iter, C.range1, C.range2, C.seqOf, C.enum, C.zip2, C.tgName, C.tgNil, C.tgCons, C.tgTup, C.yes, chk, binOp, cmpOp, cmpI, List.getElem?_cons, c2, c3, hany, truth]
end K86

set_option maxRecDepth 100000
set_option maxHeartbeats 4000000
/-! The plain law, part 20: passings. -/
namespace K86
open PySem PySem.Spec L2 Dl KM
open PyProof.Rows hiding St
theorem zip_map {α β : Type} (e1 : α → Dl.D) (e2 : β → Dl.D) : ∀ (xs : List α) (ys : List β), C.zipD (xs.map e1) (ys.map e2) = (xs.zip ys).map fun p => .tuple [e1 p.1, e2 p.2]
  | [], _ => by simp [C.zipD]
  | _ :: _, [] => by simp [C.zipD]
  | x :: xs, y :: ys => by
    rw [List.map_cons, List.map_cons, C.zipD, zip_map e1 e2 xs ys]
    rfl
def gapI (p : Nat × Nat) : Int := (gap p.1 p.2 : Nat)
theorem gap_abs (x y : Nat) : opAbs (.int ((x : Int) - (y : Int))) = some (.int (gap x y : Nat)) := by
  show some (PyData.int (if (x : Int) - (y : Int) < 0 then -((x : Int) - (y : Int)) else (x : Int) - (y : Int))) = _
  congr 2
  unfold gap
  split <;> omega
theorem gap_sum : ∀ (xs ys : List Nat), ((xs.zip ys).map gapI).sum = (dst xs ys : Nat)
  | [], _ => by simp [dst]
  | _ :: _, [] => by simp [dst]
  | x :: xs, y :: ys => by
    have ih := gap_sum xs ys
    rw [List.zip_cons_cons, List.map_cons, List.sum_cons, ih]
    simp only [dst, gapI]
    omega
theorem pass_c1 (k : Nat) {m m' : Fm} (hm : okM m) (hm' : okM m') (s0 s1 s2 : SV) :
    l_passings_1 (k + 1) [s0, s1, s2, .val (encF m), .val (encF m'), .un, .un] = some (.list (((B 0 m.bs).zip (B 0 m'.bs)).map fun p => .int (gapI p)), [s0, s1, s2, .val (encF m), .val (encF m'), .un, .un]) := by
  have b1 := behind_ok k m.bs (by have := hm.bl; omega)
  have b2 := behind_ok k m'.bs (by have := hm'.bl; omega)
  have i1 : item (encF m) (.int 3) = some (.str (wordS m.bs)) := rfl
  have i2 : item (encF m') (.int 3) = some (.str (wordS m'.bs)) := rfl
  have hl : (B 0 m.bs).length ≤ 16 := by
    rw [B_len]
    have := List.count_le_length (l := m.bs) (a := true)
    have := hm.bl
    omega
  have e := lc_enc (enc := fun p : Nat × Nat => .tuple [nI p.1, nI p.2]) (vs := [5, 6]) (it := C.zip2 (C.call (I_behind_by (k + 1)) (C.cons (C.subOwn 3 (C.const (.int 3))) C.nil)) (C.call (I_behind_by (k + 1)) (C.cons (C.subOwn 4 (C.const (.int 3))) C.nil))) (g := C.tgTup (C.tgCons (C.tgName 5) (C.tgCons (C.tgName 6) C.tgNil))) (t := C.yes) (ex := C.un1 opAbs (C.bin (binOp .Sub) (C.var 5) (C.var 6)))
    (ρ := [s0, s1, s2, .val (encF m), .val (encF m'), .un, .un]) (ρ1 := [s0, s1, s2, .val (encF m), .val (encF m'), .un, .un]) (fs := (B 0 m.bs).zip (B 0 m'.bs)) (fun _ => true) (fun p => .int (gapI p)) (by
      rw [← zip_map]
      generalize (B 0 m.bs).map nI = X at *
      generalize (B 0 m'.bs).map nI = Y at *
      generalize encF m = M at *
      generalize encF m' = M' at *
      simp [runDef, S.seq, S.skip, S.brk, S.cont, S.ite, S.asg, S.asgG, S.par, S.svOf, S.setItem, S.append, S.drop, S.aug, S.ret, S.retN, S.for_, C.const, C.varV, C.var, C.un1, C.bin, C.cmp, C.chain, C.ofT, C.test, C.not, C.and, C.or, C.andV, C.orV, C.ifx, C.nil, C.cons, C.star, C.tup, C.lst, C.repL, C.subOwn, C.lenOwn, C.noPart, C.part, C.sl, C.call, C.callO, C.callS, C.callK, C.popOwn, C.walk, C.iter, C.range1, C.range2, C.seqOf, C.enum, C.zip2, C.tgName, C.tgNil, C.tgCons, C.tgTup, C.yes, chk, binOp, cmpOp, cmpI, List.getElem?_cons, i1, i2, b1, b2]) rfl (by rw [List.length_zip]; unfold line; omega) (fun p hp => by
      refine ⟨[s0, s1, s2, .val (encF m), .val (encF m'), .val (nI p.1), .val (nI p.2)], ?_, rfl⟩
      have h1 := gap_abs p.1 p.2
      have h2 : opSub (nI p.1) (nI p.2) = some (.int ((p.1 : Int) - (p.2 : Int))) := rfl
      have h3 : PyData.int (gapI p) = .int (gap p.1 p.2 : Nat) := rfl
      rw [h3]
      generalize PyData.int (gap p.1 p.2 : Nat) = G at *
      generalize (p.1 : Int) - (p.2 : Int) = dd at *
      generalize nI p.1 = P1 at *
      generalize nI p.2 = P2 at *
      generalize encF m = M at *
      generalize encF m' = M' at *
      simp [C.lcTurn, C.wipeR, runDef, S.seq, S.skip, S.brk, S.cont, S.ite, S.asg, S.asgG, S.par, S.svOf, S.setItem, S.append, S.drop, S.aug, S.ret, S.retN, S.for_, C.const, C.varV, C.var, C.un1, C.bin, C.cmp, C.chain, C.ofT, C.test, C.not, C.and, C.or, C.andV, C.orV, C.ifx, C.nil, C.cons, C.star, C.tup, C.lst, C.repL, C.subOwn, C.lenOwn, C.noPart, C.part, C.sl, C.call, C.callO, C.callS, C.callK, C.popOwn, C.walk, C.iter, C.range1, C.range2, C.seqOf, C.enum, C.zip2, C.tgName, C.tgNil, C.tgCons, C.tgTup, C.yes, chk, binOp, cmpOp, cmpI, List.getElem?_cons, h1, h2])
  rw [List.filter_eq_self.mpr (fun _ _ => rfl)] at e
  exact e
theorem sum_map {α : Type} (xs : List α) (f : α → Int) : opSum (.list (xs.map fun p => .int (f p))) = some (.int (xs.map f).sum) := by
  show (ints? (xs.map fun p => PyData.int (f p))).map (fun ns => PyData.int ns.sum) = _
  have := ints_map (xs.map f)
  rw [List.map_map] at this
  replace this : ints? (xs.map fun p => PyData.int (f p)) = _ := this
  rw [this]
  rfl
theorem pass_loop (k : Nat) : ∀ (u v : Form) (acc : Int) (s0 s1 s3 s4 : SV), (∀ m ∈ u, okM m) → (∀ m ∈ v, okM m) → ∃ (s3' s4' : SV),
    S.forL (C.tgTup (C.tgCons (C.tgName 3) (C.tgCons (C.tgName 4) C.tgNil))) (b_passings_1 (k + 1)) (C.zipD (u.map encF) (v.map encF)) [s0, s1, .val (.int acc), s3, s4, .un, .un] = some (.nx, [s0, s1, .val (.int (acc + (dF u v : Nat))), s3', s4', .un, .un])
  | [], _, acc, s0, s1, s3, s4, _, _ => ⟨s3, s4, by simp [C.zipD, S.forL, dF]⟩
  | _ :: _, [], acc, s0, s1, s3, s4, _, _ => ⟨s3, s4, by simp [C.zipD, S.forL, dF]⟩
  | m :: u, m' :: v, acc, s0, s1, s3, s4, hu, hv => by
    have c1 := pass_c1 k (hu m List.mem_cons_self) (hv m' List.mem_cons_self) s0 s1 (.val (.int acc))
    have hs := sum_map ((B 0 m.bs).zip (B 0 m'.bs)) gapI
    rw [gap_sum] at hs
    obtain ⟨s3', s4', e⟩ := pass_loop k u v (acc + (dst (B 0 m.bs) (B 0 m'.bs) : Nat)) s0 s1 (.val (encF m)) (.val (encF m')) (fun n hn => hu n (List.mem_cons_of_mem _ hn)) (fun n hn => hv n (List.mem_cons_of_mem _ hn))
    have ea : acc + (dst (B 0 m.bs) (B 0 m'.bs) : Nat) + (dF u v : Nat) = acc + (dF (m :: u) (m' :: v) : Nat) := by
      simp only [dF]
      omega
    rw [ea] at e
    have hb : b_passings_1 (k + 1) [s0, s1, .val (.int acc), .val (encF m), .val (encF m'), .un, .un] = some (.nx, [s0, s1, .val (.int (acc + (dst (B 0 m.bs) (B 0 m'.bs) : Nat))), .val (encF m), .val (encF m'), .un, .un]) := by
      generalize (((B 0 m.bs).zip (B 0 m'.bs)).map fun p => PyData.int (gapI p)) = G at *
      generalize ((dst (B 0 m.bs) (B 0 m'.bs) : Nat) : Int) = X at *
      generalize encF m = M at *
      generalize encF m' = M' at *
      simp [b_passings_1, runDef, S.seq, S.skip, S.brk, S.cont, S.ite, S.asg, S.asgG, S.par, S.svOf, S.setItem, S.append, S.drop, S.aug, S.ret, S.retN, S.for_, C.const, C.varV, C.var, C.un1, C.bin, C.cmp, C.chain, C.ofT, C.test, C.not, C.and, C.or, C.andV, C.orV, C.ifx, C.nil, C.cons, C.star, C.tup, C.lst, C.repL, C.subOwn, C.lenOwn, C.noPart, C.part, C.sl, C.call, C.callO, C.callS, C.callK, C.popOwn, C.walk, C.iter, C.range1, C.range2, C.seqOf, C.enum, C.zip2, C.tgName, C.tgNil, C.tgCons, C.tgTup, C.yes, chk, binOp, cmpOp, cmpI, List.getElem?_cons, augF, c1, hs]
    refine ⟨s3', s4', ?_⟩
    rw [List.map_cons, List.map_cons, C.zipD, S.forL]
    generalize (((B 0 m.bs).zip (B 0 m'.bs)).map fun p => PyData.int (gapI p)) = G at *
    generalize C.zipD (u.map encF) (v.map encF) = Z at *
    generalize ((dst (B 0 m.bs) (B 0 m'.bs) : Nat) : Int) = X at *
    generalize acc + (dF (m :: u) (m' :: v) : Nat) = Y at *
    generalize encF m = M at *
    generalize encF m' = M' at *
    simp [runDef, S.seq, S.skip, S.brk, S.cont, S.ite, S.asg, S.asgG, S.par, S.svOf, S.setItem, S.append, S.drop, S.aug, S.ret, S.retN, S.for_, C.const, C.varV, C.var, C.un1, C.bin, C.cmp, C.chain, C.ofT, C.test, C.not, C.and, C.or, C.andV, C.orV, C.ifx, C.nil, C.cons, C.star, C.tup, C.lst, C.repL, C.subOwn, C.lenOwn, C.noPart, C.part, C.sl, C.call, C.callO, C.callS, C.callK, C.popOwn, C.walk, C.iter, C.range1, C.range2, C.seqOf, C.enum, C.zip2, C.tgName, C.tgNil, C.tgCons, C.tgTup, C.yes, chk, binOp, cmpOp, cmpI, List.getElem?_cons, hb, e]
theorem pass_ok (k : Nat) {u v : Form} (hu : okU u) (hk : Kin u v) : (I_passings (k + 6)).sem [] [encU u, encU v] = some (.int (dF u v : Nat), []) := by
  rw [sem_passings]
  have hv := hu.kin hk
  have hc := check_ok (k + 4) [(encU u, u), (encU v, v)] u (by simp) (by simp) hu (fun p hp => by
    simp at hp
    rcases hp with rfl | rfl
    · exact tup_U k hu (.inr rfl)
    · exact tup_U k hv (.inr rfl)) (fun p hp => by
    simp at hp
    rcases hp with rfl | rfl
    · exact Kin.refl u
    · exact hk)
  replace hc : (I_check_kinds (k + 5)).sem [] [.tuple [encU u, encU v]] = some (.none, []) := hc
  obtain ⟨s3, s4, e⟩ := pass_loop (k + 4) u v 0 (.val (encU u)) (.val (encU v)) .un .un hu.1 hv.1
  rw [Int.zero_add] at e
  generalize ((dF u v : Nat) : Int) = Y at *
  have hU : encU u = .tuple (u.map encF) := rfl
  have hV : encU v = .tuple (v.map encF) := rfl
  rw [hU, hV] at hc e ⊢
  replace e : S.forL (C.tgTup (C.tgCons (C.tgName 3) (C.tgCons (C.tgName 4) C.tgNil))) (b_passings_1 (k + 5)) (C.zipD (u.map encF) (v.map encF)) _ = _ := e
  generalize u.map encF = A at *
  generalize v.map encF = A' at *
  simp [z_passings, runDef, S.seq, S.skip, S.brk, S.cont, S.ite, S.asg, S.asgG, S.par, S.svOf, S.setItem, S.append, S.drop, S.aug, S.ret, S.retN, S.for_, C.const, C.varV, C.var, C.un1, C.bin, C.cmp, C.chain, C.ofT, C.test, C.not, C.and, C.or, C.andV, C.orV, C.ifx, C.nil, C.cons, C.star, C.tup, C.lst, C.repL, C.subOwn, C.lenOwn, C.noPart, C.part, C.sl, C.call, C.callO, C.callS, C.callK, C.popOwn, C.walk, C.iter, C.range1, C.range2, C.seqOf, C.enum, C.zip2, C.tgName, C.tgNil, C.tgCons, C.tgTup, C.yes, chk, binOp, cmpOp, cmpI, List.getElem?_cons, hc, e, line_small]
end K86

set_option maxRecDepth 100000
set_option maxHeartbeats 4000000
/-! The plain law, part 21: the neighbours of a form, by the program and by the law. -/
namespace K86
open PySem PySem.Spec L2 Dl KM
open PyProof.Rows hiding St
theorem range1_pred {a : EV} {ρ ρ1 : Rho} {n : Nat} (h : a ρ = some (.int ((n : Int) - 1), ρ1)) (hn : n < 1000000) : C.range1 a ρ = some ((List.range (n - 1)).map nI, ρ1) := by
  cases n with
  | zero => exact range1_raw (i := -1) h (by decide)
  | succ n =>
    have : ((n + 1 : Nat) : Int) - 1 = (n : Int) := by omega
    rw [this] at h
    exact range1_ok h (by omega)
theorem flat_len {α : Type} {f : Nat → List α} {c : Nat} (h : ∀ i, (f i).length ≤ c) : ∀ n, ((List.range n).flatMap f).length ≤ c * n
  | 0 => by simp
  | n + 1 => by
    rw [List.range_succ, List.flatMap_append, List.length_append, Nat.mul_succ]
    have := flat_len h n
    have := h n
    have e : [n].flatMap f = f n := by simp
    rw [e]
    omega
theorem swL_len (u : Form) (p : Nat) (m : Fm) (i : Nat) : (swL u p m i).length ≤ 1 := by
  unfold swL
  split
  · split <;> simp
  · simp
theorem nextAt_len {u : Form} (h : okU u) (p : Nat) : (nextAt u p).length ≤ 16 := by
  unfold nextAt
  split
  · rename_i m hm
    have := flat_len (swL_len u p m) (m.bs.length - 1)
    have := (h.1 m (List.mem_of_getElem? hm)).bl
    omega
  · simp
theorem next_ok_mem {u : Form} (h : okU u) : ∀ v ∈ nextFs u, okU v ∧ Kin u v := fun v hv => by
  have := (mem_next.mp hv).kin.symm
  exact ⟨h.kin this, this⟩
noncomputable def sortU (u : Form) : List Form := Classical.choose (sort_map (enc := encU) (nextFs u))
theorem sortU_perm (u : Form) : (sortU u).Perm (nextFs u) := (Classical.choose_spec (sort_map (enc := encU) (nextFs u))).1
theorem sortU_eq (u : Form) : isort ((nextFs u).map encU) = (sortU u).map encU := (Classical.choose_spec (sort_map (enc := encU) (nextFs u))).2
theorem mem_sortU {u v : Form} : v ∈ sortU u ↔ StepF u v := by rw [(sortU_perm u).mem_iff, mem_next]
theorem alike_Fs : ∀ (u v : Form), PySem.W.alikeAll (u.map encF) (v.map encF) = true
  | [], _ => by rw [List.map_nil, PySem.W.alikeAll]
  | _ :: _, [] => by rw [List.map_nil, List.map_cons, PySem.W.alikeAll]
  | x :: xs, y :: ys => by
    rw [List.map_cons, List.map_cons, PySem.W.alikeAll, alike_Fs xs ys]
    simp [encF, PySem.W.alike, PySem.W.alikeAll, alike_strs]
theorem sortB_U {fs : List Form} (hl : fs.length ≤ line) (hne : ∀ u ∈ fs, u ≠ []) (hok : ∀ u ∈ fs, okU u) : sortB (fs.map encU) = true :=
  sortB_map hl (fun a _ b _ => by rw [encU, encU, PySem.W.alike]; exact alike_Fs a b) (fun a ha => by
    have := hne a ha
    cases a with
    | nil => exact absurd rfl this
    | cons m u => rfl) fun a ha => by have := (U_can (hok a ha)).2; omega
theorem next_sorted {u : Form} (h : okU u) : opSorted (.list ((nextFs u).map encU)) = some (.list ((sortU u).map encU)) := by
  have hl : (nextFs u).length ≤ line := by
    have := flat_len (nextAt_len h) u.length
    have := h.2
    unfold nextFs line
    omega
  have hne : ∀ v ∈ nextFs u, v ≠ [] := fun v hv e => by
    subst e
    obtain ⟨u1, m, u2, b', _, _, e⟩ := mem_next.mp hv
    cases u1 <;> cases e
  rw [opSorted_list, sortB_U hl hne (fun v hv => (next_ok_mem h v hv).1), sortU_eq]
  rfl
/-- the word's two signs at a place -/
theorem signs {bs : List Bool} {i : Nat} (hi : i < bs.length - 1) : ∃ x y, bs[i]? = some x ∧ bs[i + 1]? = some y ∧ bs.drop i = x :: y :: bs.drop (i + 2) := by
  have h1 : i < bs.length := by omega
  have h2 : i + 1 < bs.length := by omega
  refine ⟨bs[i], bs[i + 1], List.getElem?_eq_getElem h1, List.getElem?_eq_getElem h2, ?_⟩
  rw [List.drop_eq_getElem_cons h1, List.drop_eq_getElem_cons h2]
theorem nI_add (i j : Nat) : opAdd (nI i) (.int (j : Int)) = some (nI (i + j)) := by
  show some (PyData.int ((i : Int) + (j : Int))) = some (.int ((i + j : Nat) : Int))
  congr 2
abbrev nxSt (d : Dl.D) (u : Form) (fs : List Form) (s3 s4 s5 s6 s7 s8 s9 : SV) : Rho :=
  [.val d, .val (encU u), .own (fs.map encU), s3, s4, s5, s6, s7, s8, s9]
theorem next_b1 (k : Nat) (d : Dl.D) {u : Form} (hu : okU u) (fs : List Form) (hfl : fs.length ≤ 100000) {p : Nat} {m : Fm} (hm : u[p]? = some m) {i : Nat} (hi : i < m.bs.length - 1) (s9 : SV) :
    ∃ s9', b_next_forms_1 k (nxSt d u fs (.val (nI p)) (.val (.str (wayS m.w))) (.val (.tuple (m.xs.map .str))) (.val (.tuple (m.ys.map .str))) (.val (.str (wordS m.bs))) (.val (nI i)) s9) = some (.nx, nxSt d u (fs ++ swL u p m i) (.val (nI p)) (.val (.str (wayS m.w))) (.val (.tuple (m.xs.map .str))) (.val (.tuple (m.ys.map .str))) (.val (.str (wordS m.bs))) (.val (nI i)) s9') := by
  have hp : p < u.length := (List.getElem?_eq_some_iff.mp hm).1
  have hbl := (hu.1 m (List.mem_of_getElem? hm)).bl
  obtain ⟨x, y, hx, hy, hd⟩ := signs hi
  have i1 := w_item hx (by omega)
  have i2 := w_item hy (by omega)
  have q := eq_sgn x y
  have a1 : opAdd (nI i) (.int 1) = some (nI (i + 1)) := nI_add i 1
  have a2 : opAdd (nI i) (.int 2) = some (nI (i + 2)) := nI_add i 2
  have a3 : opAdd (nI p) (.int 1) = some (nI (p + 1)) := nI_add p 1
  by_cases hxy : x = y
  · have hs : swL u p m i = [] := by unfold swL; rw [hd]; simp [hxy]
    refine ⟨s9, ?_⟩
    rw [hs, List.append_nil]
    subst hxy
    generalize encU u = U at *
    generalize fs.map encU = FS at *
    generalize m.xs.map PyData.str = XS at *
    generalize m.ys.map PyData.str = YS at *
    simp at q
    simp [b_next_forms_1, runDef, S.seq, S.skip, S.brk, S.cont, S.ite, S.asg, S.asgG, S.par, S.svOf, S.setItem, S.append, S.drop, S.aug, S.ret, S.retN, S.for_, C.const, C.varV, C.var, C.un1, C.bin, C.cmp, C.chain, C.ofT, C.test, C.not, C.and, C.or, C.andV, C.orV, C.ifx, C.nil, C.cons, C.star, C.tup, C.lst, C.repL, C.subOwn, C.lenOwn, C.noPart, C.part, C.sl, C.call, C.callO, C.callS, C.callK, C.popOwn, C.walk, C.iter, C.range1, C.range2, C.seqOf, C.enum, C.zip2, C.tgName, C.tgNil, C.tgCons, C.tgTup, C.yes, chk, binOp, cmpOp, cmpI, List.getElem?_cons, nxSt, nI] at *
    simp [i1, i2, q, a1]
  · have hs : swL u p m i = [u.take p ++ setB m (m.bs.take i ++ y :: x :: m.bs.drop (i + 2)) :: u.drop (p + 1)] := by unfold swL; rw [hd]; simp [hxy]
    have t1 := w_take m.bs i (by omega) (by omega)
    have t2 := w_drop m.bs (i + 2) (by omega)
    have l1 : (m.bs.take i).length ≤ 16 := by rw [List.length_take]; omega
    have l2 : (m.bs.drop (i + 2)).length ≤ 16 := by rw [List.length_drop]; omega
    have c1 := w_add (m.bs.take i) [y] (by simp; omega)
    have c2 := w_add (m.bs.take i ++ [y]) [x] (by simp; omega)
    have c3 := w_add (m.bs.take i ++ [y] ++ [x]) (m.bs.drop (i + 2)) (by rw [List.length_append, List.length_append, List.length_singleton, List.length_singleton]; omega)
    rw [wordS_one] at c1 c2
    have e3 : m.bs.take i ++ [y] ++ [x] ++ m.bs.drop (i + 2) = m.bs.take i ++ y :: x :: m.bs.drop (i + 2) := by simp
    rw [e3] at c3
    have u1 := t_take (u.map encF) p
    have u2 := t_drop (u.map encF) (p + 1)
    rw [← List.map_take] at u1
    rw [← List.map_drop] at u2
    refine ⟨.val (.str (wordS (m.bs.take i ++ y :: x :: m.bs.drop (i + 2)))), ?_⟩
    rw [hs, nxSt, nxSt, List.map_append]
    have hen : [u.take p ++ setB m (m.bs.take i ++ y :: x :: m.bs.drop (i + 2)) :: u.drop (p + 1)].map encU = [.tuple ((u.take p).map encF ++ (PyData.tuple [.str (wayS m.w), .tuple (m.xs.map .str), .tuple (m.ys.map .str), .str (wordS (m.bs.take i ++ y :: x :: m.bs.drop (i + 2)))]) :: (u.drop (p + 1)).map encF)] := by
      rw [List.map_cons, List.map_nil, encU, List.map_append, List.map_cons]
      rfl
    rw [hen]
    have hlt : (fs.map encU).length < line := by rw [List.length_map]; unfold line; omega
    have hlt2 : ((u.take p).map encF).length + (((u.drop (p + 1)).map encF).length + 1) ≤ line := by
      have := hu.2
      rw [List.length_map, List.length_map, List.length_take, List.length_drop]
      unfold line
      omega
    have hU : encU u = .tuple (u.map encF) := rfl
    rw [hU]
    generalize (u.take p).map encF = TA at *
    generalize (u.drop (p + 1)).map encF = TB at *
    generalize u.map encF = U at *
    generalize fs.map encU = FS at *
    generalize m.xs.map PyData.str = XS at *
    generalize m.ys.map PyData.str = YS at *
    generalize wordS (m.bs.take i ++ y :: x :: m.bs.drop (i + 2)) = W3 at *
    generalize wordS (m.bs.take i ++ [y] ++ [x]) = W2 at *
    generalize wordS (m.bs.take i ++ [y]) = W1 at *
    generalize wordS (m.bs.take i) = W0 at *
    generalize wordS (m.bs.drop (i + 2)) = WD at *
    generalize wordS m.bs = WW at *
    simp [hxy] at q
    simp [nI] at *
    simp [b_next_forms_1, runDef, S.seq, S.skip, S.brk, S.cont, S.ite, S.asg, S.asgG, S.par, S.svOf, S.setItem, S.append, S.drop, S.aug, S.ret, S.retN, S.for_, C.const, C.varV, C.var, C.un1, C.bin, C.cmp, C.chain, C.ofT, C.test, C.not, C.and, C.or, C.andV, C.orV, C.ifx, C.nil, C.cons, C.star, C.tup, C.lst, C.repL, C.subOwn, C.lenOwn, C.noPart, C.part, C.sl, C.call, C.callO, C.callS, C.callK, C.popOwn, C.walk, C.iter, C.range1, C.range2, C.seqOf, C.enum, C.zip2, C.tgName, C.tgNil, C.tgCons, C.tgTup, C.yes, chk, binOp, cmpOp, cmpI, List.getElem?_cons, i1, i2, q, a1, a2, a3, t1, t2, c1, c2, c3, u1, u2, hlt, hlt2, line_small]
theorem range_get {n i : Nat} {d : Dl.D} (h : ((List.range n).map nI)[i]? = some d) : i < n ∧ d = nI i := by
  rw [List.getElem?_map] at h
  obtain ⟨j, h1, h2⟩ := Option.map_eq_some_iff.mp h
  obtain ⟨h3, h4⟩ := List.getElem?_eq_some_iff.mp h1
  rw [List.getElem_range] at h4
  rw [List.length_range] at h3
  subst h4
  exact ⟨h3, h2.symm⟩
theorem next_b2 (k : Nat) (d : Dl.D) {u : Form} (hu : okU u) (fs : List Form) (hfl : fs.length ≤ 90000) {p : Nat} {m : Fm} (hm : u[p]? = some m) (s8 s9 : SV) :
    ∃ s8' s9', b_next_forms_2 k (nxSt d u fs (.val (nI p)) (.val (.str (wayS m.w))) (.val (.tuple (m.xs.map .str))) (.val (.tuple (m.ys.map .str))) (.val (.str (wordS m.bs))) s8 s9) = some (.nx, nxSt d u (fs ++ nextAt u p) (.val (nI p)) (.val (.str (wayS m.w))) (.val (.tuple (m.xs.map .str))) (.val (.tuple (m.ys.map .str))) (.val (.str (wordS m.bs))) s8' s9') := by
  have hbl := (hu.1 m (List.mem_of_getElem? hm)).bl
  obtain ⟨ρ', e, s8', s9', rfl⟩ := forL_inv (g := C.tgName 8) (b := b_next_forms_1 k) (ds := (List.range (m.bs.length - 1)).map nI)
    (fun i ρ => ∃ s8' s9', ρ = nxSt d u (fs ++ (List.range i).flatMap (swL u p m)) (.val (nI p)) (.val (.str (wayS m.w))) (.val (.tuple (m.xs.map .str))) (.val (.tuple (m.ys.map .str))) (.val (.str (wordS m.bs))) s8' s9')
    (fun i d' hd' ρ ⟨t8, t9, e⟩ => by
      obtain ⟨hi, rfl⟩ := range_get hd'
      subst e
      have hl := flat_len (swL_len u p m) i
      obtain ⟨t9', e1⟩ := next_b1 k d hu (fs ++ (List.range i).flatMap (swL u p m)) (by rw [List.length_append]; omega) hm hi t9
      refine ⟨_, _, rfl, e1, .val (nI i), t9', ?_⟩
      have er : (List.range (i + 1)).flatMap (swL u p m) = (List.range i).flatMap (swL u p m) ++ swL u p m i := by rw [List.range_succ, List.flatMap_append]; simp
      rw [er, List.append_assoc])
    (ρ := nxSt d u fs (.val (nI p)) (.val (.str (wayS m.w))) (.val (.tuple (m.xs.map .str))) (.val (.tuple (m.ys.map .str))) (.val (.str (wordS m.bs))) s8 s9) ⟨s8, s9, by simp⟩
  rw [List.length_map, List.length_range] at e
  have hn : nextAt u p = (List.range (m.bs.length - 1)).flatMap (swL u p m) := by unfold nextAt; rw [hm]
  refine ⟨s8', s9', ?_⟩
  rw [hn]
  have hr : ∀ ρ : Rho, ρ[7]? = some (.val (.str (wordS m.bs))) → C.range1 (C.bin (binOp .Sub) (C.lenOwn 7) (C.const (.int 1))) ρ = some ((List.range (m.bs.length - 1)).map nI, ρ) := fun ρ h7 => range1_pred (by
    have h1 := w_lenI m.bs (by omega)
    simp [runDef, S.seq, S.skip, S.brk, S.cont, S.ite, S.asg, S.asgG, S.par, S.svOf, S.setItem, S.append, S.drop, S.aug, S.ret, S.retN, S.for_, C.const, C.varV, C.var, C.un1, C.bin, C.cmp, C.chain, C.ofT, C.test, C.not, C.and, C.or, C.andV, C.orV, C.ifx, C.nil, C.cons, C.star, C.tup, C.lst, C.repL, C.subOwn, C.lenOwn, C.noPart, C.part, C.sl, C.call, C.callO, C.callS, C.callK, C.popOwn, C.walk, C.iter, C.range1, C.range2, C.seqOf, C.enum, C.zip2, C.tgName, C.tgNil, C.tgCons, C.tgTup, C.yes, chk, binOp, cmpOp, cmpI, List.getElem?_cons, h7, h1, opSub]) (by omega)
  have hr1 := hr (nxSt d u fs (.val (nI p)) (.val (.str (wayS m.w))) (.val (.tuple (m.xs.map .str))) (.val (.tuple (m.ys.map .str))) (.val (.str (wordS m.bs))) s8 s9) rfl
  unfold b_next_forms_2 S.for_
  rw [hr1]
  exact e
theorem next_ok (k : Nat) {u : Form} (hu : okU u) {d : Dl.D} (hT : (I_tupled k).sem [] [d] = some (encU u, [])) : (I_next_forms (k + 1)).sem [] [d] = some (.list ((sortU u).map encU), []) := by
  rw [sem_next_forms]
  have ho := hu.2
  obtain ⟨ρ', e, s3, s4, s5, s6, s7, s8, s9, rfl⟩ := forL_inv (g := C.tgTup (C.tgCons (C.tgName 3) (C.tgCons (C.tgTup (C.tgCons (C.tgName 4) (C.tgCons (C.tgName 5) (C.tgCons (C.tgName 6) (C.tgCons (C.tgName 7) C.tgNil))))) C.tgNil))) (b := b_next_forms_2 k) (ds := C.number 0 (u.map encF))
    (fun i ρ => ∃ s3 s4 s5 s6 s7 s8 s9, ρ = nxSt d u ((List.range i).flatMap (nextAt u)) s3 s4 s5 s6 s7 s8 s9)
    (fun p d' hd' ρ ⟨t3, t4, t5, t6, t7, t8, t9, e⟩ => by
      rw [number_get, List.getElem?_map] at hd'
      obtain ⟨d1, hd1, rfl⟩ := Option.map_eq_some_iff.mp hd'
      obtain ⟨m, hm, rfl⟩ := Option.map_eq_some_iff.mp hd1
      have hp : p < u.length := (List.getElem?_eq_some_iff.mp hm).1
      subst e
      have hl := flat_len (nextAt_len hu) p
      obtain ⟨t8', t9', e1⟩ := next_b2 k d hu ((List.range p).flatMap (nextAt u)) (by omega) hm t8 t9
      refine ⟨nxSt d u ((List.range p).flatMap (nextAt u)) (.val (nI p)) (.val (.str (wayS m.w))) (.val (.tuple (m.xs.map .str))) (.val (.tuple (m.ys.map .str))) (.val (.str (wordS m.bs))) t8 t9, _, ?_, e1, ?_⟩
      · have hz : PyData.int ((0 + p : Nat) : Int) = nI p := by rw [Nat.zero_add]; rfl
        have hen : encF m = .tuple [.str (wayS m.w), .tuple (m.xs.map .str), .tuple (m.ys.map .str), .str (wordS m.bs)] := rfl
        rw [hz, hen]
        rfl
      · have er : (List.range (p + 1)).flatMap (nextAt u) = (List.range p).flatMap (nextAt u) ++ nextAt u p := by rw [List.range_succ, List.flatMap_append]; simp
        rw [er]
        exact ⟨_, _, _, _, _, _, _, rfl⟩)
    (ρ := nxSt d u [] .un .un .un .un .un .un .un) ⟨.un, .un, .un, .un, .un, .un, .un, by simp⟩
  have hnl : (C.number 0 (u.map encF)).length = u.length := by
    have : ∀ (ds : List Dl.D) (j : Nat), (C.number j ds).length = ds.length := fun ds => by
      induction ds with
      | nil => intro j; rfl
      | cons a r ih => intro j; show (C.number (j + 1) r).length + 1 = _; rw [ih]; rfl
    rw [this, List.length_map]
  rw [hnl] at e
  replace e : S.forL _ _ _ _ = some (Fl.nx, nxSt d u (nextFs u) s3 s4 s5 s6 s7 s8 s9) := e
  have hs := next_sorted hu
  have hU : encU u = .tuple (u.map encF) := rfl
  have en : C.enum (C.var 1) (nxSt d u [] .un .un .un .un .un .un .un) = some (C.number 0 (u.map encF), nxSt d u [] .un .un .un .un .un .un .un) := by
    simp [runDef, S.seq, S.skip, S.brk, S.cont, S.ite, S.asg, S.asgG, S.par, S.svOf, S.setItem, S.append, S.drop, S.aug, S.ret, S.retN, S.for_, C.const, C.varV, C.var, C.un1, C.bin, C.cmp, C.chain, C.ofT, C.test, C.not, C.and, C.or, C.andV, C.orV, C.ifx, C.nil, C.cons, C.star, C.tup, C.lst, C.repL, C.subOwn, C.lenOwn, C.noPart, C.part, C.sl, C.call, C.callO, C.callS, C.callK, C.popOwn, C.walk, C.iter, C.range1, C.range2, C.seqOf, C.enum, C.zip2, C.tgName, C.tgNil, C.tgCons, C.tgTup, C.yes, chk, binOp, cmpOp, cmpI, List.getElem?_cons, nxSt, encU]
  have c1 : (S.for_ (C.enum (C.var 1)) (C.tgTup (C.tgCons (C.tgName 3) (C.tgCons (C.tgTup (C.tgCons (C.tgName 4) (C.tgCons (C.tgName 5) (C.tgCons (C.tgName 6) (C.tgCons (C.tgName 7) C.tgNil))))) C.tgNil))) (b_next_forms_2 k)) (nxSt d u [] .un .un .un .un .un .un .un) = some (Fl.nx, nxSt d u (nextFs u) s3 s4 s5 s6 s7 s8 s9) := by
    unfold S.for_
    rw [en]
    exact e
  clear e en hU
  unfold z_next_forms
  generalize S.for_ (C.enum (C.var 1)) (C.tgTup (C.tgCons (C.tgName 3) (C.tgCons (C.tgTup (C.tgCons (C.tgName 4) (C.tgCons (C.tgName 5) (C.tgCons (C.tgName 6) (C.tgCons (C.tgName 7) C.tgNil))))) C.tgNil))) (b_next_forms_2 k) = FOR at *
  simp only [nxSt, List.map_nil] at c1
  generalize (nextFs u).map encU = N at *
  generalize (sortU u).map encU = SO at *
  generalize encU u = U at *
  simp [runDef, S.seq, S.skip, S.brk, S.cont, S.ite, S.asg, S.asgG, S.par, S.svOf, S.setItem, S.append, S.drop, S.aug, S.ret, S.retN, S.for_, C.const, C.varV, C.var, C.un1, C.bin, C.cmp, C.chain, C.ofT, C.test, C.not, C.and, C.or, C.andV, C.orV, C.ifx, C.nil, C.cons, C.star, C.tup, C.lst, C.repL, C.subOwn, C.lenOwn, C.noPart, C.part, C.sl, C.call, C.callO, C.callS, C.callK, C.popOwn, C.walk, C.iter, C.range1, C.range2, C.seqOf, C.enum, C.zip2, C.tgName, C.tgNil, C.tgCons, C.tgTup, C.yes, chk, binOp, cmpOp, cmpI, List.getElem?_cons, hT, c1, hs, line_small]
end K86

set_option maxRecDepth 100000
set_option maxHeartbeats 4000000
/-! The plain law, part 22: the law's own neighbours: the same ones. -/
namespace K86
open PySem PySem.Spec L2 Dl KM
open PyProof.Rows hiding St
theorem tup_add {xs ys : List Dl.D} (h : xs.length + ys.length ≤ line) : opAdd (.tuple xs) (.tuple ys) = some (.tuple (xs ++ ys)) := by
  show chk (decide (xs.length + ys.length ≤ line)) (PyData.tuple (xs ++ ys)) = _
  rw [decide_eq_true h]
  rfl
abbrev lnSt (u : Form) (fs : List Form) (s2 s3 s4 s5 s6 : SV) : Rho := [.val (encU u), .own (fs.map encU), s2, s3, s4, s5, s6]
theorem lnext_b1 (k : Nat) {u : Form} (hu : okU u) (fs : List Form) (hfl : fs.length ≤ 100000) {p : Nat} {m : Fm} (hm : u[p]? = some m) {i : Nat} (hi : i < m.bs.length - 1) (s5 s6 : SV) :
    ∃ s5' s6', b_law_next_1 k (lnSt u fs (.val (nI p)) (.val (encF m)) (.val (nI i)) s5 s6) = some (.nx, lnSt u (fs ++ swL u p m i) (.val (nI p)) (.val (encF m)) (.val (nI i)) s5' s6') := by
  have hp : p < u.length := (List.getElem?_eq_some_iff.mp hm).1
  have hbl := (hu.1 m (List.mem_of_getElem? hm)).bl
  obtain ⟨x, y, hx, hy, hd⟩ := signs hi
  have i1 := w_item hx (by omega)
  have i2 := w_item hy (by omega)
  have i3 : item (encF m) (.int 3) = some (.str (wordS m.bs)) := rfl
  have q := eq_sgn x y
  have a1 : opAdd (nI i) (.int 1) = some (nI (i + 1)) := nI_add i 1
  have a2 : opAdd (nI i) (.int 2) = some (nI (i + 2)) := nI_add i 2
  have a3 : opAdd (nI p) (.int 1) = some (nI (p + 1)) := nI_add p 1
  by_cases hxy : x = y
  · have hs : swL u p m i = [] := by unfold swL; rw [hd]; simp [hxy]
    refine ⟨s5, s6, ?_⟩
    rw [hs, List.append_nil]
    subst hxy
    generalize encU u = U at *
    generalize encF m = M at *
    generalize fs.map encU = FS at *
    simp at q
    simp [b_law_next_1, runDef, S.seq, S.skip, S.brk, S.cont, S.ite, S.asg, S.asgG, S.par, S.svOf, S.setItem, S.append, S.drop, S.aug, S.ret, S.retN, S.for_, C.const, C.varV, C.var, C.un1, C.bin, C.cmp, C.chain, C.ofT, C.test, C.not, C.and, C.or, C.andV, C.orV, C.ifx, C.nil, C.cons, C.star, C.tup, C.lst, C.repL, C.subOwn, C.lenOwn, C.noPart, C.part, C.sl, C.call, C.callO, C.callS, C.callK, C.popOwn, C.walk, C.iter, C.range1, C.range2, C.seqOf, C.enum, C.zip2, C.tgName, C.tgNil, C.tgCons, C.tgTup, C.yes, chk, binOp, cmpOp, cmpI, List.getElem?_cons, lnSt, nI] at *
    simp [i1, i2, i3, q, a1]
  · have hs : swL u p m i = [u.take p ++ setB m (m.bs.take i ++ y :: x :: m.bs.drop (i + 2)) :: u.drop (p + 1)] := by unfold swL; rw [hd]; simp [hxy]
    have t1 := w_take m.bs i (by omega) (by omega)
    have t2 := w_drop m.bs (i + 2) (by omega)
    have t3 := w_mid m.bs i (i + 2) (by omega) (by omega) (by omega)
    have e2 : (m.bs.drop i).take (i + 2 - i) = [x, y] := by rw [hd, show i + 2 - i = 2 by omega]; rfl
    rw [e2] at t3
    have t4 := w_rev [x, y] (by simp)
    have l1 : (m.bs.take i).length ≤ 16 := by rw [List.length_take]; omega
    have l2 : (m.bs.drop (i + 2)).length ≤ 16 := by rw [List.length_drop]; omega
    have c1 := w_add (m.bs.take i) [x, y].reverse (by simp; omega)
    have c2 := w_add (m.bs.take i ++ [x, y].reverse) (m.bs.drop (i + 2)) (by rw [List.length_append]; simp only [List.length_reverse, List.length_cons, List.length_nil]; omega)
    have e3 : m.bs.take i ++ [x, y].reverse ++ m.bs.drop (i + 2) = m.bs.take i ++ y :: x :: m.bs.drop (i + 2) := by simp
    rw [e3] at c2
    have u1 := t_take (u.map encF) p
    have u2 := t_drop (u.map encF) (p + 1)
    rw [← List.map_take] at u1
    rw [← List.map_drop] at u2
    refine ⟨.val (.str (wordS [x, y].reverse)), .val (.str (wordS (m.bs.take i ++ y :: x :: m.bs.drop (i + 2)))), ?_⟩
    rw [hs, lnSt, lnSt, List.map_append]
    have k1 : slice (encF m) none (some 3) = some (kindF m) := rfl
    have k2 : opAdd (kindF m) (.tuple [.str (wordS (m.bs.take i ++ y :: x :: m.bs.drop (i + 2)))]) = some (encF (setB m (m.bs.take i ++ y :: x :: m.bs.drop (i + 2)))) := rfl
    have hen : [u.take p ++ setB m (m.bs.take i ++ y :: x :: m.bs.drop (i + 2)) :: u.drop (p + 1)].map encU = [.tuple ((u.take p).map encF ++ [encF (setB m (m.bs.take i ++ y :: x :: m.bs.drop (i + 2)))] ++ (u.drop (p + 1)).map encF)] := by
      rw [List.map_cons, List.map_nil, encU, List.map_append, List.map_cons]
      simp
    have hlt : (fs.map encU).length < line := by rw [List.length_map]; unfold line; omega
    have hl2 : ((u.take p).map encF).length ≤ 200 := by
      have := hu.2
      rw [List.length_map, List.length_take]
      omega
    have hl3 : ((u.drop (p + 1)).map encF).length ≤ 200 := by
      have := hu.2
      rw [List.length_map, List.length_drop]
      omega
    have v1 := tup_add (xs := (u.take p).map encF) (ys := [encF (setB m (m.bs.take i ++ y :: x :: m.bs.drop (i + 2)))]) (by simp only [List.length_singleton]; unfold line; omega)
    have v2 := tup_add (xs := (u.take p).map encF ++ [encF (setB m (m.bs.take i ++ y :: x :: m.bs.drop (i + 2)))]) (ys := (u.drop (p + 1)).map encF) (by rw [List.length_append]; simp only [List.length_singleton]; unfold line; omega)
    rw [hen]
    have hU : encU u = .tuple (u.map encF) := rfl
    rw [hU]
    generalize (u.take p).map encF ++ [encF (setB m (m.bs.take i ++ y :: x :: m.bs.drop (i + 2)))] ++ (u.drop (p + 1)).map encF = TT at *
    generalize (u.take p).map encF ++ [encF (setB m (m.bs.take i ++ y :: x :: m.bs.drop (i + 2)))] = TC at *
    generalize (u.take p).map encF = TA at *
    generalize (u.drop (p + 1)).map encF = TB at *
    generalize encF (setB m (m.bs.take i ++ y :: x :: m.bs.drop (i + 2))) = NM at *
    generalize u.map encF = U at *
    generalize encF m = M at *
    generalize fs.map encU = FS at *
    generalize wordS (m.bs.take i ++ y :: x :: m.bs.drop (i + 2)) = W3 at *
    generalize wordS (m.bs.take i ++ [x, y].reverse) = W2 at *
    generalize wordS [x, y].reverse = WR at *
    generalize wordS [x, y] = WM at *
    generalize wordS (m.bs.take i) = W0 at *
    generalize wordS (m.bs.drop (i + 2)) = WD at *
    generalize wordS m.bs = WW at *
    simp [hxy] at q
    simp [nI] at *
    simp [b_law_next_1, runDef, S.seq, S.skip, S.brk, S.cont, S.ite, S.asg, S.asgG, S.par, S.svOf, S.setItem, S.append, S.drop, S.aug, S.ret, S.retN, S.for_, C.const, C.varV, C.var, C.un1, C.bin, C.cmp, C.chain, C.ofT, C.test, C.not, C.and, C.or, C.andV, C.orV, C.ifx, C.nil, C.cons, C.star, C.tup, C.lst, C.repL, C.subOwn, C.lenOwn, C.noPart, C.part, C.sl, C.call, C.callO, C.callS, C.callK, C.popOwn, C.walk, C.iter, C.range1, C.range2, C.seqOf, C.enum, C.zip2, C.tgName, C.tgNil, C.tgCons, C.tgTup, C.yes, chk, binOp, cmpOp, cmpI, List.getElem?_cons, i1, i2, i3, q, a1, a2, a3, t1, t2, t3, t4, c1, c2, u1, u2, k1, k2, v1, v2, hlt, line_small]
theorem lnext_b2 (k : Nat) {u : Form} (hu : okU u) (fs : List Form) (hfl : fs.length ≤ 90000) {p : Nat} {m : Fm} (hm : u[p]? = some m) (s4 s5 s6 : SV) :
    ∃ s4' s5' s6', b_law_next_2 k (lnSt u fs (.val (nI p)) (.val (encF m)) s4 s5 s6) = some (.nx, lnSt u (fs ++ nextAt u p) (.val (nI p)) (.val (encF m)) s4' s5' s6') := by
  have hbl := (hu.1 m (List.mem_of_getElem? hm)).bl
  obtain ⟨ρ', e, s4', s5', s6', rfl⟩ := forL_inv (g := C.tgName 4) (b := b_law_next_1 k) (ds := (List.range (m.bs.length - 1)).map nI)
    (fun i ρ => ∃ s4' s5' s6', ρ = lnSt u (fs ++ (List.range i).flatMap (swL u p m)) (.val (nI p)) (.val (encF m)) s4' s5' s6')
    (fun i d' hd' ρ ⟨t4, t5, t6, e⟩ => by
      obtain ⟨hi, rfl⟩ := range_get hd'
      subst e
      have hl := flat_len (swL_len u p m) i
      obtain ⟨t5', t6', e1⟩ := lnext_b1 k hu (fs ++ (List.range i).flatMap (swL u p m)) (by rw [List.length_append]; omega) hm hi t5 t6
      refine ⟨_, _, rfl, e1, .val (nI i), t5', t6', ?_⟩
      have er : (List.range (i + 1)).flatMap (swL u p m) = (List.range i).flatMap (swL u p m) ++ swL u p m i := by rw [List.range_succ, List.flatMap_append]; simp
      rw [er, List.append_assoc])
    (ρ := lnSt u fs (.val (nI p)) (.val (encF m)) s4 s5 s6) ⟨s4, s5, s6, by simp⟩
  rw [List.length_map, List.length_range] at e
  have hn : nextAt u p = (List.range (m.bs.length - 1)).flatMap (swL u p m) := by unfold nextAt; rw [hm]
  refine ⟨s4', s5', s6', ?_⟩
  rw [hn]
  have hr : ∀ ρ : Rho, ρ[3]? = some (.val (encF m)) → C.range1 (C.bin (binOp .Sub) (C.un1 opLen (C.subOwn 3 (C.const (.int 3)))) (C.const (.int 1))) ρ = some ((List.range (m.bs.length - 1)).map nI, ρ) := fun ρ h7 => range1_pred (by
    have h1 := w_lenI m.bs (by omega)
    have i3 : item (encF m) (.int 3) = some (.str (wordS m.bs)) := rfl
    generalize encF m = M at *
    simp [runDef, S.seq, S.skip, S.brk, S.cont, S.ite, S.asg, S.asgG, S.par, S.svOf, S.setItem, S.append, S.drop, S.aug, S.ret, S.retN, S.for_, C.const, C.varV, C.var, C.un1, C.bin, C.cmp, C.chain, C.ofT, C.test, C.not, C.and, C.or, C.andV, C.orV, C.ifx, C.nil, C.cons, C.star, C.tup, C.lst, C.repL, C.subOwn, C.lenOwn, C.noPart, C.part, C.sl, C.call, C.callO, C.callS, C.callK, C.popOwn, C.walk, C.iter, C.range1, C.range2, C.seqOf, C.enum, C.zip2, C.tgName, C.tgNil, C.tgCons, C.tgTup, C.yes, chk, binOp, cmpOp, cmpI, List.getElem?_cons, h7, h1, i3, opSub]) (by omega)
  have hr1 := hr (lnSt u fs (.val (nI p)) (.val (encF m)) s4 s5 s6) rfl
  unfold b_law_next_2 S.for_
  rw [hr1]
  exact e
theorem number_len : ∀ (ds : List Dl.D) (j : Nat), (C.number j ds).length = ds.length := fun ds => by
  induction ds with
  | nil => intro j; rfl
  | cons a r ih => intro j; show (C.number (j + 1) r).length + 1 = _; rw [ih]; rfl
theorem lnext_ok (k : Nat) {u : Form} (hu : okU u) : (I_law_next (k + 1)).sem [] [encU u] = some (.list ((sortU u).map encU), []) := by
  rw [sem_law_next]
  have ho := hu.2
  obtain ⟨ρ', e, s2, s3, s4, s5, s6, rfl⟩ := forL_inv (g := C.tgTup (C.tgCons (C.tgName 2) (C.tgCons (C.tgName 3) C.tgNil))) (b := b_law_next_2 k) (ds := C.number 0 (u.map encF))
    (fun i ρ => ∃ s2 s3 s4 s5 s6, ρ = lnSt u ((List.range i).flatMap (nextAt u)) s2 s3 s4 s5 s6)
    (fun p d' hd' ρ ⟨t2, t3, t4, t5, t6, e⟩ => by
      rw [number_get, List.getElem?_map] at hd'
      obtain ⟨d1, hd1, rfl⟩ := Option.map_eq_some_iff.mp hd'
      obtain ⟨m, hm, rfl⟩ := Option.map_eq_some_iff.mp hd1
      have hp : p < u.length := (List.getElem?_eq_some_iff.mp hm).1
      subst e
      have hl := flat_len (nextAt_len hu) p
      obtain ⟨t4', t5', t6', e1⟩ := lnext_b2 k hu ((List.range p).flatMap (nextAt u)) (by omega) hm t4 t5 t6
      refine ⟨lnSt u ((List.range p).flatMap (nextAt u)) (.val (nI p)) (.val (encF m)) t4 t5 t6, _, ?_, e1, ?_⟩
      · have hz : PyData.int ((0 + p : Nat) : Int) = nI p := by rw [Nat.zero_add]; rfl
        rw [hz]
        rfl
      · have er : (List.range (p + 1)).flatMap (nextAt u) = (List.range p).flatMap (nextAt u) ++ nextAt u p := by rw [List.range_succ, List.flatMap_append]; simp
        rw [er]
        exact ⟨_, _, _, _, _, rfl⟩)
    (ρ := lnSt u [] .un .un .un .un .un) ⟨.un, .un, .un, .un, .un, by simp⟩
  rw [number_len, List.length_map] at e
  replace e : S.forL _ _ _ _ = some (Fl.nx, lnSt u (nextFs u) s2 s3 s4 s5 s6) := e
  have hs := next_sorted hu
  have en : C.enum (C.var 0) (lnSt u [] .un .un .un .un .un) = some (C.number 0 (u.map encF), lnSt u [] .un .un .un .un .un) := by
    simp [runDef, S.seq, S.skip, S.brk, S.cont, S.ite, S.asg, S.asgG, S.par, S.svOf, S.setItem, S.append, S.drop, S.aug, S.ret, S.retN, S.for_, C.const, C.varV, C.var, C.un1, C.bin, C.cmp, C.chain, C.ofT, C.test, C.not, C.and, C.or, C.andV, C.orV, C.ifx, C.nil, C.cons, C.star, C.tup, C.lst, C.repL, C.subOwn, C.lenOwn, C.noPart, C.part, C.sl, C.call, C.callO, C.callS, C.callK, C.popOwn, C.walk, C.iter, C.range1, C.range2, C.seqOf, C.enum, C.zip2, C.tgName, C.tgNil, C.tgCons, C.tgTup, C.yes, chk, binOp, cmpOp, cmpI, List.getElem?_cons, lnSt, encU]
  have c1 : (S.for_ (C.enum (C.var 0)) (C.tgTup (C.tgCons (C.tgName 2) (C.tgCons (C.tgName 3) C.tgNil))) (b_law_next_2 k)) (lnSt u [] .un .un .un .un .un) = some (Fl.nx, lnSt u (nextFs u) s2 s3 s4 s5 s6) := by
    unfold S.for_
    rw [en]
    exact e
  clear e en
  unfold z_law_next
  generalize S.for_ (C.enum (C.var 0)) (C.tgTup (C.tgCons (C.tgName 2) (C.tgCons (C.tgName 3) C.tgNil))) (b_law_next_2 k) = FOR at *
  simp only [lnSt, List.map_nil] at c1
  generalize (nextFs u).map encU = N at *
  generalize (sortU u).map encU = SO at *
  generalize encU u = U at *
  simp [runDef, S.seq, S.skip, S.brk, S.cont, S.ite, S.asg, S.asgG, S.par, S.svOf, S.setItem, S.append, S.drop, S.aug, S.ret, S.retN, S.for_, C.const, C.varV, C.var, C.un1, C.bin, C.cmp, C.chain, C.ofT, C.test, C.not, C.and, C.or, C.andV, C.orV, C.ifx, C.nil, C.cons, C.star, C.tup, C.lst, C.repL, C.subOwn, C.lenOwn, C.noPart, C.part, C.sl, C.call, C.callO, C.callS, C.callK, C.popOwn, C.walk, C.iter, C.range1, C.range2, C.seqOf, C.enum, C.zip2, C.tgName, C.tgNil, C.tgCons, C.tgTup, C.yes, chk, binOp, cmpOp, cmpI, List.getElem?_cons, c1, hs, line_small]
end K86

/-! Step by step through a graph: what stands in the table when nothing new is found. No program in sight (meant for k86). -/
namespace KB
variable {α : Type}
/-- how far things lie from one of them: `d` is told by the neighbours `nx` -/
structure Gr (P : α → Prop) (nx : α → List α) (d : α → Nat) (s : α) : Prop where
  s0 : P s
  ds : d s = 0
  zero : ∀ g, P g → d g = 0 → g = s
  near : ∀ g, P g → ∀ h ∈ nx g, P h ∧ d h ≤ d g + 1
  fall : ∀ g, P g → 0 < d g → ∃ h, P h ∧ g ∈ nx h ∧ d h + 1 = d g
/-- how it stands after so many turns -/
structure At (P : α → Prop) (d : α → Nat) (tab : List (α × Nat)) (rim : List α) (n : Nat) : Prop where
  rim : ∀ g, g ∈ rim ↔ P g ∧ d g = n
  tab : ∀ g m, (g, m) ∈ tab ↔ P g ∧ d g = m ∧ m < n
variable {P : α → Prop} {nx : α → List α} {d : α → Nat} {s : α}
theorem Gr.start (h : Gr P nx d s) : At P d [] [s] 0 where
  rim g := by
    rw [List.mem_singleton]
    exact ⟨fun e => by rw [e]; exact ⟨h.s0, h.ds⟩, fun e => h.zero g e.1 e.2⟩
  tab g m := by simp
theorem At.told {tab : List (α × Nat)} {rim : List α} {n : Nat} (a : At P d tab rim n) (g : α) (m : Nat) : (g, m) ∈ tab ++ rim.map (fun x => (x, n)) ↔ P g ∧ d g = m ∧ m < n + 1 := by
  rw [List.mem_append, a.tab, List.mem_map]
  constructor
  · rintro (⟨h1, h2, h3⟩ | ⟨x, hx, e⟩)
    · exact ⟨h1, h2, by omega⟩
    · cases e
      have := (a.rim g).mp hx
      exact ⟨this.1, this.2, by omega⟩
  · rintro ⟨h1, h2, h3⟩
    by_cases e : m < n
    · exact .inl ⟨h1, h2, e⟩
    · have e : m = n := by omega
      subst e
      exact .inr ⟨g, (a.rim g).mpr ⟨h1, h2⟩, rfl⟩
theorem At.turn (hg : Gr P nx d s) {tab : List (α × Nat)} {rim rim' : List α} {n : Nat} (a : At P d tab rim n)
    (hr : ∀ g, g ∈ rim' ↔ (∃ f ∈ rim, g ∈ nx f) ∧ ∀ m, (g, m) ∉ tab ++ rim.map (fun x => (x, n))) :
    At P d (tab ++ rim.map (fun x => (x, n))) rim' (n + 1) where
  tab g m := a.told g m
  rim g := by
    rw [hr]
    constructor
    · rintro ⟨⟨f, hf, hn⟩, ho⟩
      have h1 := (a.rim f).mp hf
      have h2 := hg.near f h1.1 g hn
      have h3 : ¬ d g < n + 1 := fun e => ho (d g) ((a.told g (d g)).mpr ⟨h2.1, rfl, e⟩)
      exact ⟨h2.1, by omega⟩
    · rintro ⟨h1, h2⟩
      obtain ⟨f, hf, hn, e⟩ := hg.fall g h1 (by omega)
      refine ⟨⟨f, (a.rim f).mpr ⟨hf, by omega⟩, hn⟩, fun m hm => ?_⟩
      have := (a.told g m).mp hm
      omega
theorem Gr.fill (hg : Gr P nx d s) (n : Nat) : ∀ (k : Nat) (g : α), P g → d g = n + k → ∃ h, P h ∧ d h = n
  | 0, g, hp, e => ⟨g, hp, e⟩
  | k + 1, g, hp, e => by
    obtain ⟨f, hf, _, e'⟩ := hg.fall g hp (by omega)
    exact Gr.fill hg n k f hf (by omega)
/-- nothing new: all of them stand in the table, each with its number -/
theorem At.whole (hg : Gr P nx d s) {tab : List (α × Nat)} {n : Nat} (a : At P d tab [] n) (g : α) (m : Nat) : (g, m) ∈ tab ↔ P g ∧ d g = m := by
  rw [a.tab]
  refine ⟨fun h => ⟨h.1, h.2.1⟩, fun h => ⟨h.1, h.2, ?_⟩⟩
  by_cases e : m < n
  · exact e
  · obtain ⟨f, h1, h2⟩ := hg.fill n (m - n) g h.1 (by omega)
    exact absurd ((a.rim f).mpr ⟨h1, h2⟩) (by simp)
theorem At.done {tab : List (α × Nat)} {rim : List α} {n b : Nat} (a : At P d tab rim n) (hb : ∀ g, P g → d g ≤ b) (h : b < n) : rim = [] := by
  cases rim with
  | nil => rfl
  | cons g r =>
    have h1 := (a.rim g).mp (List.mem_cons_self ..)
    have := hb g h1.1
    omega
end KB

set_option maxRecDepth 100000
set_option maxHeartbeats 4000000
/-! Forms of one kind are such a graph: so a search step by step gives each form its distance (meant for k86: put K86 for K86). -/
namespace K86
open PySem PySem.Spec L2 Dl KM
open PyProof.Rows hiding St
theorem StepW_symm {a a' : List Bool} (h : StepW a a') : StepW a' a := by
  obtain ⟨p, x, y, s, rfl, hne, rfl⟩ := h
  exact ⟨p, y, x, s, rfl, fun e => hne e.symm, rfl⟩
theorem StepF.symm {u u' : Form} (h : StepF u u') : StepF u' u := by
  obtain ⟨u1, m, u2, b', rfl, h, rfl⟩ := h
  exact ⟨u1, setB m b', u2, m.bs, rfl, StepW_symm h, rfl⟩
theorem gr_forms (u : Form) : KB.Gr (fun g => Kin u g) nextFs (fun g => dF g u) u where
  s0 := Kin.refl u
  ds := dF_self u
  zero g hk h := dF_zero hk.symm h
  near g hk h hh := by
    have st := mem_next.mp hh
    exact ⟨hk.trans st.kin.symm, (st.near u).2⟩
  fall g hk h := by
    have hne : g ≠ u := fun e => by subst e; rw [dF_self] at h; omega
    obtain ⟨h', h1, h2⟩ := fallF hk.symm hne
    exact ⟨h', hk.trans h1.kin.symm, mem_next.mpr h1.symm, h2⟩
/-! ### how many forms a kind has -/
def allF : Form → List Form
  | [] => [[]]
  | m :: u => (KW.words (m.bs.count true) (m.bs.count false)).flatMap fun b => (allF u).map (setB m b :: ·)
theorem perm_counts {a b : List Bool} : a.Perm b ↔ b.count true = a.count true ∧ b.count false = a.count false := by
  rw [List.perm_iff_count]
  constructor
  · intro h; exact ⟨(h true).symm, (h false).symm⟩
  · rintro ⟨h1, h2⟩ x
    cases x
    · exact h2.symm
    · exact h1.symm
theorem mem_allF : ∀ {u v : Form}, v ∈ allF u ↔ Kin u v
  | [], [] => by simp [allF, Kin]
  | [], _ :: _ => by simp [allF, Kin]
  | m :: u, [] => by simp [allF, Kin]
  | m :: u, m' :: v => by
    rw [allF, List.mem_flatMap]
    constructor
    · rintro ⟨b, hb, h⟩
      obtain ⟨v', hv, e⟩ := List.mem_map.mp h
      rw [List.cons.injEq] at e
      obtain ⟨e1, e2⟩ := e
      subst e1 e2
      have hc := (KW.mem_words _ _ b).mp hb
      exact ⟨⟨rfl, rfl, rfl, perm_counts.mpr hc⟩, mem_allF.mp hv⟩
    · rintro ⟨⟨h1, h2, h3, h4⟩, hk⟩
      refine ⟨m'.bs, (KW.mem_words _ _ _).mpr (perm_counts.mp h4), List.mem_map.mpr ⟨v, mem_allF.mpr hk, ?_⟩⟩
      congr 1
      cases m'
      simp only [setB]
      simp at h1 h2 h3
      simp [h1, h2, h3]
def manyF : Form → Nat
  | [] => 1
  | m :: u => KW.ways (m.bs.count true) (m.bs.count false) * manyF u
theorem allF_len : ∀ u : Form, (allF u).length = manyF u
  | [] => rfl
  | m :: u => by
    have key : ∀ l : List (List Bool), (l.flatMap fun b => (allF u).map (setB m b :: ·)).length = l.length * (allF u).length := by
      intro l
      induction l with
      | nil => simp
      | cons x r ih => rw [List.flatMap_cons, List.length_append, ih, List.length_map, List.length_cons, Nat.succ_mul, Nat.add_comm]
    rw [allF, key, allF_len u]
    rfl
/-- a list of unlike forms of one kind is no longer than that -/
theorem few_forms [DecidableEq Form] {u : Form} {l : List Form} (hd : l.Nodup) (h : ∀ v ∈ l, Kin u v) : l.length ≤ manyF u := by
  rw [← allF_len u]
  exact KW.no_longer l (allF u) hd fun v hv => mem_allF.mpr (h v hv)
end K86

set_option maxRecDepth 100000
set_option maxHeartbeats 4000000
/-! A form as a key of a dict (meant for k86: put K86 for K86). -/
namespace K86
open PySem PySem.Spec L2 Dl KM
open PyProof.Rows hiding St
def nkF (m : Fm) : NestedKey := .tup [.text (wayS m.w), .tup (m.xs.map .text), .tup (m.ys.map .text), .text (wordS m.bs)]
def nkU (u : Form) : NestedKey := .tup (u.map nkF)
theorem nk_strs : ∀ xs : List Str, nkAll (xs.map PyData.str) = some (xs.map NestedKey.text)
  | [] => rfl
  | x :: r => by rw [List.map_cons, nkAll, nkD, nk_strs r]; rfl
theorem nk_F (m : Fm) : nkD (encF m) = some (nkF m) := by
  simp only [encF, nkD, nkAll, nk_strs, Option.map_some, nkF]
theorem nk_Fs : ∀ u : Form, nkAll (u.map encF) = some (u.map nkF)
  | [] => rfl
  | m :: u => by rw [List.map_cons, nkAll, nk_F, nk_Fs u]; rfl
theorem nk_U (u : Form) : nkD (encU u) = some (nkU u) := by
  rw [encU, nkD, nk_Fs]; rfl
theorem depth_texts : ∀ xs : List Str, NestedKey.depthAll (xs.map .text) = 0
  | [] => rfl
  | x :: r => by rw [List.map_cons, NestedKey.depthAll, depth_texts r, NestedKey.depth]; rfl
theorem depth_F (m : Fm) : (nkF m).depth = 2 := by
  simp only [nkF, NestedKey.depth, NestedKey.depthAll, depth_texts]
  rfl
theorem depth_Fs : ∀ u : Form, NestedKey.depthAll (u.map nkF) ≤ 2
  | [] => by rw [List.map_nil, NestedKey.depthAll]; omega
  | m :: u => by
    rw [List.map_cons, NestedKey.depthAll, depth_F]
    have := depth_Fs u
    omega
theorem depth_U (u : Form) : (nkU u).depth ≤ 8 := by
  rw [nkU, NestedKey.depth]
  have := depth_Fs u
  omega
theorem texts_inj : ∀ {xs ys : List Str}, xs.map NestedKey.text = ys.map NestedKey.text → xs = ys
  | [], [], _ => rfl
  | [], _ :: _, h => by simp at h
  | _ :: _, [], h => by simp at h
  | x :: xs, y :: ys, h => by
    simp only [List.map_cons, List.cons.injEq, NestedKey.text.injEq] at h
    rw [h.1, texts_inj h.2]
theorem nkF_inj {m m' : Fm} (h : nkF m = nkF m') : m = m' := by
  simp only [nkF, NestedKey.tup.injEq, List.cons.injEq, NestedKey.text.injEq, and_true] at h
  obtain ⟨h1, h2, h3, h4⟩ := h
  cases m
  cases m'
  simp only at h1 h2 h3 h4
  rw [way_inj] at h1
  rw [wordS_iff] at h4
  rw [h1, texts_inj h2, texts_inj h3, h4]
theorem nkFs_inj : ∀ {u v : Form}, u.map nkF = v.map nkF → u = v
  | [], [], _ => rfl
  | [], _ :: _, h => by simp at h
  | _ :: _, [], h => by simp at h
  | m :: u, m' :: v, h => by
    simp only [List.map_cons, List.cons.injEq] at h
    rw [nkF_inj h.1, nkFs_inj h.2]
theorem nkU_inj {u v : Form} (h : nkU u = nkU v) : u = v := nkFs_inj (NestedKey.tup.inj h)
/-! ### to sorted no two unlike forms are alike -/
theorem alike_eqv {x y : Dl.D} (h : PySem.W.alike x y = true) (h1 : dLe x y = true) (h2 : dLe y x = true) : PyData.eqv x y = true := by
  unfold dLe at h1 h2
  have e1 : PySem.W.dataLt y x = false := by simpa using h1
  have e2 : PySem.W.dataLt x y = false := by simpa using h2
  have k : PySem.W.keyToks x = PySem.W.keyToks y := PyProof.Rows.lex_total _ _ e2 e1
  cases e : PyData.eqv x y with
  | true => rfl
  | false =>
    exfalso
    have z := (PySem.W.toks_eqv x y h).2 e [] [Sum.inl 0]
    rw [k, PySem.W.lex_pre, PyProof.Rows.lex_irrefl] at z
    exact absurd z (by decide)
theorem anti_U (fs : List Form) : antiB (fs.map encU) := by
  intro x hx y hy h1 h2
  obtain ⟨u, hu, rfl⟩ := List.mem_map.mp hx
  obtain ⟨v, hv, rfl⟩ := List.mem_map.mp hy
  have ha : PySem.W.alike (encU u) (encU v) = true := by rw [encU, encU, PySem.W.alike]; exact alike_Fs u v
  have e := alike_eqv ha h1 h2
  rw [eqv_U] at e
  rw [of_decide_eq_true e]
end K86

set_option maxRecDepth 100000
set_option maxHeartbeats 4000000
/-! The plain law of k86, part 23: how many forms. -/
namespace K86
open PySem PySem.Spec L2 Dl KM
open PyProof.Rows hiding St
theorem for_ok {it : AV} {g : GV} {b : ZV} {ρ ρ1 : Rho} {ds : List Dl.D} {r : Option (Fl × Rho)} (h : it ρ = some (ds, ρ1)) (e : S.forL g b ds ρ1 = r) : S.for_ it g b ρ = r := by
  unfold S.for_
  rw [h]
  exact e
theorem seq_ok {a b : ZV} {ρ ρ1 : Rho} {r : Option (Fl × Rho)} (h1 : a ρ = some (.nx, ρ1)) (h2 : b ρ1 = r) : S.seq a b ρ = r := by
  unfold S.seq
  rw [h1]
  exact h2
theorem run_ok {np nl : Nat} {body : ZV} {xs : List Dl.D} {d : Dl.D} {ρ : Rho} (hl : xs.length = np) (h : body (xs.map .val ++ List.replicate (nl - np) .un) = some (.rt d, ρ)) : runDef false np nl body [] xs = some (d, []) := by
  unfold runDef
  simp [hl, h]
theorem mul_nat (a b : Nat) (h : b < 1000) : opMul (.int (a : Int)) (.int (b : Int)) = some (.int ((a * b : Nat) : Int)) := by
  have e : in64 (b : Int) = true := by
    unfold in64
    rw [Bool.and_eq_true]
    exact ⟨decide_eq_true (by omega), decide_eq_true (by omega)⟩
  unfold opMul
  dsimp only
  rw [e, Bool.or_true, ← Int.natCast_mul]
  rfl
theorem div_nat (a b : Nat) (h0 : 0 < b) (h : b < 1000) : opDiv (.int (a : Int)) (.int (b : Int)) = some (.int ((a / b : Nat) : Int)) := by
  have e : (decide ((0 : Int) < b) && decide ((b : Int) < 1073741824)) = true := by
    rw [Bool.and_eq_true]
    exact ⟨decide_eq_true (by omega), decide_eq_true (by omega)⟩
  unfold opDiv
  dsimp only
  rw [e, ← Int.natCast_ediv]
  rfl
theorem mn_step1 (k : Nat) {U M A N NI I : Dl.D} {z : Int} {s3 : SV} (hs : opSub N I = some NI) (hm : opMul A NI = some (.int z)) : b_law_many_1 k [.val U, .val A, .val M, s3, .val N, .val I] = some (.nx, [.val U, .val (.int z), .val M, s3, .val N, .val I]) := by
  simp [b_law_many_1, runDef, S.seq, S.skip, S.brk, S.cont, S.ite, S.asg, S.asgG, S.par, S.svOf, S.setItem, S.append, S.drop, S.aug, S.ret, S.retN, S.for_, C.const, C.varV, C.var, C.un1, C.bin, C.cmp, C.chain, C.ofT, C.test, C.not, C.and, C.or, C.andV, C.orV, C.ifx, C.nil, C.cons, C.star, C.tup, C.lst, C.repL, C.subOwn, C.lenOwn, C.noPart, C.part, C.sl, C.call, C.callO, C.callS, C.callK, C.popOwn, C.walk, C.iter, C.range1, C.range2, C.seqOf, C.enum, C.zip2, C.tgName, C.tgNil, C.tgCons, C.tgTup, C.yes, chk, binOp, cmpOp, cmpI, List.getElem?_cons, hs, hm]
theorem mn_step2 (k : Nat) {U M A J I : Dl.D} {z : Int} {s3 s4 : SV} (hs : opAdd I (.int 1) = some J) (hm : opDiv A J = some (.int z)) : b_law_many_2 k [.val U, .val A, .val M, s3, s4, .val I] = some (.nx, [.val U, .val (.int z), .val M, s3, s4, .val I]) := by
  simp [b_law_many_2, runDef, S.seq, S.skip, S.brk, S.cont, S.ite, S.asg, S.asgG, S.par, S.svOf, S.setItem, S.append, S.drop, S.aug, S.ret, S.retN, S.for_, C.const, C.varV, C.var, C.un1, C.bin, C.cmp, C.chain, C.ofT, C.test, C.not, C.and, C.or, C.andV, C.orV, C.ifx, C.nil, C.cons, C.star, C.tup, C.lst, C.repL, C.subOwn, C.lenOwn, C.noPart, C.part, C.sl, C.call, C.callO, C.callS, C.callK, C.popOwn, C.walk, C.iter, C.range1, C.range2, C.seqOf, C.enum, C.zip2, C.tgName, C.tgNil, C.tgCons, C.tgTup, C.yes, chk, binOp, cmpOp, cmpI, List.getElem?_cons, hs, hm]
def mnSt (U M : Dl.D) (many a n : Nat) (s5 : SV) : Rho := [.val U, .val (nI many), .val M, .val (nI a), .val (nI n), s5]
theorem many_l1 (k : Nat) (U M : Dl.D) (m a n : Nat) (ha : a ≤ n) (hn : n ≤ 100) (s5 : SV) : ∃ s5', S.for_ (C.range1 (C.var 3)) (C.tgName 5) (b_law_many_1 k) (mnSt U M m a n s5) = some (.nx, mnSt U M (KW.muls m n a) a n s5') := by
  obtain ⟨ρ', e, h'⟩ := forL_inv (g := C.tgName 5) (b := b_law_many_1 k) (ds := (List.range a).map nI) (fun i ρ => ∃ s, ρ = mnSt U M (KW.muls m n i) a n s)
    (fun i d hd ρ ⟨s, e⟩ => by
      obtain ⟨hi, rfl⟩ := range_get hd
      subst e
      refine ⟨mnSt U M (KW.muls m n i) a n (.val (nI i)), mnSt U M (KW.muls m n (i + 1)) a n (.val (nI i)), rfl, ?_, _, rfl⟩
      have hs : opSub (nI n) (nI i) = some (nI (n - i)) := by
        show some (PyData.int ((n : Int) - (i : Int))) = some (PyData.int ((n - i : Nat) : Int))
        rw [Int.ofNat_sub (by omega)]
      exact mn_step1 k hs (mul_nat (KW.muls m n i) (n - i) (by omega)))
    (ρ := mnSt U M m a n s5) ⟨s5, rfl⟩
  rw [List.length_map, List.length_range] at h'
  obtain ⟨s', rfl⟩ := h'
  exact ⟨s', for_ok (range1_ok (n := a) rfl (by omega)) e⟩
theorem many_l2 (k : Nat) (U M : Dl.D) (m a n : Nat) (ha : a ≤ 100) (s5 : SV) : ∃ s5', S.for_ (C.range1 (C.var 3)) (C.tgName 5) (b_law_many_2 k) (mnSt U M m a n s5) = some (.nx, mnSt U M (KW.divs m a) a n s5') := by
  obtain ⟨ρ', e, h'⟩ := forL_inv (g := C.tgName 5) (b := b_law_many_2 k) (ds := (List.range a).map nI) (fun i ρ => ∃ s, ρ = mnSt U M (KW.divs m i) a n s)
    (fun i d hd ρ ⟨s, e⟩ => by
      obtain ⟨hi, rfl⟩ := range_get hd
      subst e
      refine ⟨mnSt U M (KW.divs m i) a n (.val (nI i)), mnSt U M (KW.divs m (i + 1)) a n (.val (nI i)), rfl, ?_, _, rfl⟩
      exact mn_step2 k (J := nI (i + 1)) (nI_add i 1) (div_nat (KW.divs m i) (i + 1) (by omega) (by omega)))
    (ρ := mnSt U M m a n s5) ⟨s5, rfl⟩
  rw [List.length_map, List.length_range] at h'
  obtain ⟨s', rfl⟩ := h'
  exact ⟨s', for_ok (range1_ok (n := a) rfl (by omega)) e⟩
theorem many_b3 (k : Nat) (U : Dl.D) {m : Fm} (hm : okM m) (x : Nat) (s3 s4 s5 : SV) : ∃ s3' s4' s5', b_law_many_3 k [.val U, .val (nI x), .val (encF m), s3, s4, s5] = some (.nx, [.val U, .val (nI (x * KW.ways (m.bs.count true) (m.bs.count false))), .val (encF m), s3', s4', s5']) := by
  have hbl := hm.bl
  have hc : m.bs.count true + m.bs.count false = m.bs.length := by
    have := List.length_eq_countP_add_countP (fun b => b == true) (l := m.bs)
    have e : m.bs.countP (fun a => decide ¬(a == true) = true) = m.bs.count false := by
      unfold List.count
      refine List.countP_congr fun b _ => ?_
      cases b <;> simp
    rw [e] at this
    exact this.symm
  obtain ⟨t5, e1⟩ := many_l1 k U (encF m) x (m.bs.count true) m.bs.length (by omega) (by omega) s5
  obtain ⟨t5', e2⟩ := many_l2 k U (encF m) (KW.muls x m.bs.length (m.bs.count true)) (m.bs.count true) m.bs.length (by omega) t5
  have e3 := KW.loop_eq x (m.bs.count true) (m.bs.count false)
  rw [hc] at e3
  rw [e3] at e2
  refine ⟨.val (nI (m.bs.count true)), .val (nI m.bs.length), t5', ?_⟩
  unfold b_law_many_3
  refine seq_ok (ρ1 := mnSt U (encF m) x (m.bs.count true) m.bs.length s5) ?_ (seq_ok e1 e2)
  have i3 : item (encF m) (.int 3) = some (.str (wordS m.bs)) := rfl
  have c1 : opCount (.str (wordS m.bs)) (.str "1") = some (nI (m.bs.count true)) := w_count m.bs true
  have l1 : opLen (.str (wordS m.bs)) = some (nI m.bs.length) := w_lenI m.bs (by omega)
  unfold mnSt
  have fin : ∀ {A N : Int} {M W X : Dl.D}, item M (.int 3) = some W → opCount W (.str "1") = some (.int A) → opLen W = some (.int N) → S.par 3 4 false false (C.bin opCount (C.subOwn 2 (C.const (.int 3))) (C.const (.str "1"))) (C.un1 opLen (C.subOwn 2 (C.const (.int 3)))) [.val U, .val X, .val M, s3, s4, s5] = some (.nx, [.val U, .val X, .val M, .val (.int A), .val (.int N), s5]) := fun {A N M W X} h1 h2 h3 => by
    simp [runDef, S.seq, S.skip, S.brk, S.cont, S.ite, S.asg, S.asgG, S.par, S.svOf, S.setItem, S.append, S.drop, S.aug, S.ret, S.retN, S.for_, C.const, C.varV, C.var, C.un1, C.bin, C.cmp, C.chain, C.ofT, C.test, C.not, C.and, C.or, C.andV, C.orV, C.ifx, C.nil, C.cons, C.star, C.tup, C.lst, C.repL, C.subOwn, C.lenOwn, C.noPart, C.part, C.sl, C.call, C.callO, C.callS, C.callK, C.popOwn, C.walk, C.iter, C.range1, C.range2, C.seqOf, C.enum, C.zip2, C.tgName, C.tgNil, C.tgCons, C.tgTup, C.yes, chk, binOp, cmpOp, cmpI, List.getElem?_cons, h1, h2, h3]
  exact fin i3 c1 l1
theorem many_loop (k : Nat) (U : Dl.D) : ∀ (u : Form) (x : Nat) (s2 s3 s4 s5 : SV), (∀ m ∈ u, okM m) → ∃ s2' s3' s4' s5', S.forL (C.tgName 2) (b_law_many_3 k) (u.map encF) [.val U, .val (nI x), s2, s3, s4, s5] = some (.nx, [.val U, .val (nI (x * manyF u)), s2', s3', s4', s5'])
  | [], x, s2, s3, s4, s5, _ => ⟨s2, s3, s4, s5, by simp [S.forL, manyF]⟩
  | m :: u, x, s2, s3, s4, s5, h => by
    obtain ⟨t3, t4, t5, e1⟩ := many_b3 k U (h m (List.mem_cons_self ..)) x s3 s4 s5
    obtain ⟨t2', t3', t4', t5', e2⟩ := many_loop k U u (x * KW.ways (m.bs.count true) (m.bs.count false)) (.val (encF m)) t3 t4 t5 fun n hn => h n (List.mem_cons_of_mem _ hn)
    refine ⟨t2', t3', t4', t5', ?_⟩
    rw [Nat.mul_assoc] at e2
    rw [List.map_cons]
    unfold S.forL
    show (match b_law_many_3 k [.val U, .val (nI x), .val (encF m), s3, s4, s5] with
      | some (.nx, ρ2) => S.forL (C.tgName 2) (b_law_many_3 k) (u.map encF) ρ2
      | some (.ct, ρ2) => S.forL (C.tgName 2) (b_law_many_3 k) (u.map encF) ρ2
      | some (.bk, ρ2) => some (.nx, ρ2)
      | some (.rt d, ρ2) => some (.rt d, ρ2)
      | none => none) = _
    rw [e1]
    exact e2
theorem many_ok (k : Nat) {u : Form} (h : okU u) : (I_law_many (k + 1)).sem [] [encU u] = some (.int (manyF u : Nat), []) := by
  rw [sem_law_many]
  obtain ⟨s2, s3, s4, s5, e⟩ := many_loop k (encU u) u 1 .un .un .un .un h.1
  rw [Nat.one_mul] at e
  refine run_ok (ρ := [.val (encU u), .val (nI (manyF u)), s2, s3, s4, s5]) rfl ?_
  unfold z_law_many
  refine seq_ok (ρ1 := [.val (encU u), .val (nI 1), .un, .un, .un, .un]) rfl (seq_ok (for_ok (ρ1 := [.val (encU u), .val (nI 1), .un, .un, .un, .un]) (ds := u.map encF) rfl e) rfl)
end K86

set_option maxRecDepth 100000
set_option maxHeartbeats 4000000
/-! The plain law of k86, part 24: step by step, the table of the distances. -/
namespace K86
open PySem PySem.Spec L2 Dl KM
open PyProof.Rows hiding St
theorem eq_nilL {ds : List Dl.D} (h : shp (.list ds) = true) : opEq (.list ds) (.list []) = some ds.isEmpty := by
  unfold opEq
  rw [h]
  show some (PyData.eqv (.list ds) (.list [])) = _
  congr 1
  cases ds <;> simp [PyData.eqv, PyData.eqvAll]
theorem sortU_okU {u : Form} (h : okU u) : ∀ g ∈ sortU u, okU g := fun g hg => (next_ok_mem h g ((sortU_perm u).mem_iff.mp hg)).1
/-! ### a form is a key -/
theorem key_U (u : Form) : keyT (encU u) = some (nkU u) := by
  have h := nk_U u
  unfold encU at h ⊢
  unfold keyT
  dsimp only
  rw [h]
  dsimp only
  rw [decide_eq_true (depth_U u)]
theorem plain_strs : ∀ xs : List Str, plainAll (xs.map PyData.str) = true
  | [] => by rw [List.map_nil, plainAll]
  | x :: r => by rw [List.map_cons, plainAll, plain_strs r, plainK]; all_goals (first | rfl | (intros; exact PyData.noConfusion ‹_›))
theorem plain_F (m : Fm) : plainK (encF m) = true := by
  simp only [encF, plainK, plainAll, plain_strs, Bool.and_true]
theorem plain_Fs : ∀ u : Form, plainAll (u.map encF) = true
  | [] => by rw [List.map_nil, plainAll]
  | m :: u => by rw [List.map_cons, plainAll, plain_Fs u, plain_F]; rfl
theorem plain_U (u : Form) : plainK (encU u) = true := by
  unfold encU
  rw [plainK]
  exact plain_Fs u
def onceU : List Form → List Form
  | [] => []
  | x :: r => if x ∈ r then onceU r else x :: onceU r
theorem onceK_U : ∀ fs : List Form, onceK (fs.map encU) = (onceU fs).map encU
  | [] => rfl
  | x :: r => by
    have e : ((r.map encU).any fun y => decide (keyT y = keyT (encU x))) = decide (x ∈ r) := by
      rw [Bool.eq_iff_iff, List.any_eq_true, decide_eq_true_iff]
      constructor
      · rintro ⟨y, hy, h⟩
        obtain ⟨g, hg, rfl⟩ := List.mem_map.mp hy
        have h := of_decide_eq_true h
        rw [key_U, key_U] at h
        have := nkU_inj (Option.some.inj h)
        rw [← this]
        exact hg
      · intro h
        exact ⟨encU x, List.mem_map_of_mem h, decide_eq_true rfl⟩
    rw [List.map_cons, onceK, e, onceU, onceK_U r]
    by_cases h : x ∈ r
    · rw [decide_eq_true h, if_pos h]
    · rw [decide_eq_false h, if_neg h, List.map_cons]
theorem mem_onceU {g : Form} : ∀ {fs : List Form}, g ∈ onceU fs ↔ g ∈ fs
  | [] => by simp [onceU]
  | x :: r => by
    rw [onceU]
    split
    · rename_i h
      rw [mem_onceU, List.mem_cons]
      exact ⟨.inr, fun z => z.elim (fun e => by rw [e]; exact h) id⟩
    · rw [List.mem_cons, List.mem_cons, mem_onceU]
theorem nodup_onceU : ∀ fs : List Form, (onceU fs).Nodup
  | [] => List.nodup_nil
  | x :: r => by
    rw [onceU]
    split
    · exact nodup_onceU r
    · rename_i h
      exact List.nodup_cons.mpr ⟨fun z => h (mem_onceU.mp z), nodup_onceU r⟩
theorem ints_U {u : Form} {fs : List Form} : ints? ((u :: fs).map encU) = none := rfl
theorem set_U {fs : List Form} (hok : ∀ g ∈ fs, okU g) (hne : ∀ g ∈ fs, g ≠ []) (hl : (onceU fs).length < 64) : ∃ gs : List Form, opSortedSet (.list (fs.map encU)) = some (.list (gs.map encU)) ∧ gs.Nodup ∧ ∀ g, g ∈ gs ↔ g ∈ fs := by
  cases fs with
  | nil => exact ⟨[], rfl, List.nodup_nil, fun g => Iff.rfl⟩
  | cons u r =>
    obtain ⟨gs, hp, hs⟩ := sort_map (enc := encU) (onceU (u :: r))
    refine ⟨gs, ?_, hp.nodup_iff.mpr (nodup_onceU _), fun g => by rw [hp.mem_iff, mem_onceU]⟩
    have hB : Dl.setB ((u :: r).map encU) = true := by
      unfold Dl.setB
      rw [onceK_U]
      have e1 : (((u :: r).map encU).all fun d => (keyT d).isSome && plainK d) = true := by
        rw [List.all_eq_true]
        intro d hd
        obtain ⟨g, hg, rfl⟩ := List.mem_map.mp hd
        rw [key_U, plain_U]
        rfl
      have e2 : sortB ((onceU (u :: r)).map encU) = true := sortB_U (by unfold line; omega) (fun g hg => hne g (mem_onceU.mp hg)) (fun g hg => hok g (mem_onceU.mp hg))
      have e3 : (((onceU (u :: r)).map encU).all fun x => ((onceU (u :: r)).map encU).all fun y => !(dLe x y && dLe y x) || decide (keyT x = keyT y)) = true := by
        rw [List.all_eq_true]
        intro x hx
        rw [List.all_eq_true]
        intro y hy
        cases h1 : dLe x y with
        | false => rfl
        | true =>
          cases h2 : dLe y x with
          | false => rfl
          | true =>
            have := anti_U _ x hx y hy h1 h2
            rw [this]
            rw [decide_eq_true rfl, Bool.or_true]
      rw [e1, e2, e3, List.length_map, decide_eq_true hl]
      rfl
    have e : opSortedSet (.list ((u :: r).map encU)) = chk (Dl.setB ((u :: r).map encU)) (.list (isort (onceK ((u :: r).map encU)))) := rfl
    rw [e, hB, onceK_U, hs]
    rfl
/-! ### the table -/
def tabU (tab : List (Form × Nat)) : TabD := tab.map fun p => (encU p.1, nI p.2)
theorem find_tab (g : Form) : ∀ tab : List (Form × Nat), tabGet (tabU tab) (nkU g) = (tab.find? fun p => decide (p.1 = g)).map fun p => nI p.2
  | [] => rfl
  | p :: r => by
    have ih := find_tab g r
    unfold tabGet tabU at ih ⊢
    rw [List.map_cons, List.find?_cons, List.find?_cons]
    have e : (decide (nkD (encU p.1) = some (nkU g))) = decide (p.1 = g) := by
      rw [nk_U]
      by_cases h : p.1 = g
      · rw [h, decide_eq_true rfl, decide_eq_true rfl]
      · rw [decide_eq_false h, decide_eq_false fun z => h (nkU_inj (Option.some.inj z))]
    dsimp only
    rw [e]
    by_cases h : p.1 = g
    · rw [decide_eq_true h]
      rfl
    · rw [decide_eq_false h]
      exact ih
theorem get_none {g : Form} {tab : List (Form × Nat)} (h : ∀ m, (g, m) ∉ tab) : tabGet (tabU tab) (nkU g) = none := by
  rw [find_tab, Option.map_eq_none_iff, List.find?_eq_none]
  intro p hp hd
  have := of_decide_eq_true hd
  exact h p.2 (by rw [← this]; exact hp)
theorem get_some {g : Form} {n : Nat} {tab : List (Form × Nat)} (h : (g, n) ∈ tab) (hu : ∀ m, (g, m) ∈ tab → m = n) : tabGet (tabU tab) (nkU g) = some (nI n) := by
  rw [find_tab]
  cases e : tab.find? fun p => decide (p.1 = g) with
  | none =>
    rw [List.find?_eq_none] at e
    exact absurd (decide_eq_true rfl) (e _ h)
  | some p =>
    have h1 : p.1 = g := by have := List.find?_some e; exact of_decide_eq_true this
    have h2 := List.mem_of_find?_eq_some e
    have := hu p.2 (by rw [← h1]; exact h2)
    rw [Option.map_some, this]
theorem put_new {g : Form} {n : Nat} {tab : List (Form × Nat)} (h : ∀ m, (g, m) ∉ tab) : tabPut (tabU tab) (encU g) (nkU g) (nI n) = tabU (tab ++ [(g, n)]) := by
  unfold tabPut
  rw [get_none h]
  unfold tabU
  rw [List.map_append]
  rfl
theorem isSome_tab (g : Form) (tab : List (Form × Nat)) : (tabGet (tabU tab) (nkU g)).isSome = decide (∃ p ∈ tab, p.1 = g) := by
  rw [find_tab, Option.isSome_map, Bool.eq_iff_iff, List.find?_isSome, decide_eq_true_iff]
  exact ⟨fun ⟨p, h1, h2⟩ => ⟨p, h1, of_decide_eq_true h2⟩, fun ⟨p, h1, h2⟩ => ⟨p, h1, decide_eq_true h2⟩⟩
/-! ### a turn -/
theorem st_set (k : Nat) {T T' : TabD} {Sh G N : Dl.D} {nk : NestedKey} {s2 s5 : SV} (hk : keyT G = some nk) (hl : T.length < line) (hp : tabPut T G nk N = T') :
    b_law_steps_1 k [.val Sh, .tab T, s2, .val N, .val G, s5] = some (.nx, [.val Sh, .tab T', s2, .val N, .val G, s5]) := by
  subst hp
  simp [b_law_steps_1, S.setTab, runDef, S.seq, S.skip, S.brk, S.cont, S.ite, S.asg, S.asgG, S.par, S.svOf, S.setItem, S.append, S.drop, S.aug, S.ret, S.retN, S.for_, C.const, C.varV, C.var, C.un1, C.bin, C.cmp, C.chain, C.ofT, C.test, C.not, C.and, C.or, C.andV, C.orV, C.ifx, C.nil, C.cons, C.star, C.tup, C.lst, C.repL, C.subOwn, C.lenOwn, C.noPart, C.part, C.sl, C.call, C.callO, C.callS, C.callK, C.popOwn, C.walk, C.iter, C.range1, C.range2, C.seqOf, C.enum, C.zip2, C.tgName, C.tgNil, C.tgCons, C.tgTup, C.yes, chk, binOp, cmpOp, cmpI, List.getElem?_cons, C.isTab, hk, hl]
theorem st_l1 (k : Nat) (Sh : Dl.D) (s2 s5 : SV) (n : Nat) : ∀ (rim : List Form) (tab : List (Form × Nat)) (s4 : SV), tab.length + rim.length ≤ 100000 → rim.Nodup → (∀ g ∈ rim, ∀ m, (g, m) ∉ tab) →
    ∃ s4', (C.notOwn (some s4) = true → C.notOwn (some s4') = true) ∧ S.forL (C.tgName 4) (b_law_steps_1 k) (rim.map encU) [.val Sh, .tab (tabU tab), s2, .val (nI n), s4, s5] = some (.nx, [.val Sh, .tab (tabU (tab ++ rim.map fun x => (x, n))), s2, .val (nI n), s4', s5])
  | [], tab, s4, _, _, _ => ⟨s4, id, by simp [S.forL]⟩
  | g :: r, tab, s4, hl, hd, hn => by
    rw [List.nodup_cons] at hd
    rw [List.length_cons] at hl
    have hb := st_set k (Sh := Sh) (N := nI n) (s2 := s2) (s5 := s5) (T := tabU tab) (key_U g) (by unfold tabU; rw [List.length_map]; unfold line; omega) (put_new (n := n) (hn g List.mem_cons_self))
    obtain ⟨s4', e4, e⟩ := st_l1 k Sh s2 s5 n r (tab ++ [(g, n)]) (.val (encU g)) (by rw [List.length_append]; simp; omega) hd.2 (fun x hx m hm => by
      rcases List.mem_append.mp hm with h | h
      · exact hn x (List.mem_cons_of_mem _ hx) m h
      · simp at h
        exact hd.1 (by rw [← h.1]; exact hx))
    refine ⟨s4', fun _ => e4 rfl, ?_⟩
    rw [List.append_assoc] at e
    rw [List.map_cons]
    unfold S.forL
    show (match b_law_steps_1 k [.val Sh, .tab (tabU tab), s2, .val (nI n), .val (encU g), s5] with
      | some (.nx, ρ2) => S.forL (C.tgName 4) (b_law_steps_1 k) (r.map encU) ρ2
      | some (.ct, ρ2) => S.forL (C.tgName 4) (b_law_steps_1 k) (r.map encU) ρ2
      | some (.bk, ρ2) => some (.nx, ρ2)
      | some (.rt d, ρ2) => some (.rt d, ρ2)
      | none => none) = _
    rw [hb]
    exact e
theorem st_more (k : Nat) {Sh G : Dl.D} {s1 s2 s3 : SV} {ds es : List Dl.D} (h : (I_law_next k).sem [] [G] = some (.list es, [])) (hl : ds.length + es.length ≤ line) :
    b_law_steps_2 k [.val Sh, s1, s2, s3, .val G, .own ds] = some (.nx, [.val Sh, s1, s2, s3, .val G, .own (ds ++ es)]) := by
  have ha : opAdd (.list ds) (.list es) = some (.list (ds ++ es)) := by
    unfold opAdd
    dsimp only
    rw [decide_eq_true hl]
    rfl
  simp [b_law_steps_2, runDef, S.seq, S.skip, S.brk, S.cont, S.ite, S.asg, S.asgG, S.par, S.svOf, S.setItem, S.append, S.drop, S.aug, S.ret, S.retN, S.for_, C.const, C.varV, C.var, C.un1, C.bin, C.cmp, C.chain, C.ofT, C.test, C.not, C.and, C.or, C.andV, C.orV, C.ifx, C.nil, C.cons, C.star, C.tup, C.lst, C.repL, C.subOwn, C.lenOwn, C.noPart, C.part, C.sl, C.call, C.callO, C.callS, C.callK, C.popOwn, C.walk, C.iter, C.range1, C.range2, C.seqOf, C.enum, C.zip2, C.tgName, C.tgNil, C.tgCons, C.tgTup, C.yes, chk, binOp, cmpOp, cmpI, List.getElem?_cons, h, ha, S.svOf]
theorem st_l2 (k : Nat) (Sh : Dl.D) (s1 s2 s3 : SV) (c : Nat) : ∀ (rim : List Form) (later : List Form) (s4 : SV), (∀ g ∈ rim, okU g ∧ (sortU g).length ≤ c) → later.length + c * rim.length ≤ 1000000 →
    ∃ s4', (C.notOwn (some s4) = true → C.notOwn (some s4') = true) ∧ S.forL (C.tgName 4) (b_law_steps_2 (k + 1)) (rim.map encU) [.val Sh, s1, s2, s3, s4, .own (later.map encU)] = some (.nx, [.val Sh, s1, s2, s3, s4', .own ((later ++ rim.flatMap sortU).map encU)])
  | [], later, s4, _, _ => ⟨s4, id, by simp [S.forL]⟩
  | g :: r, later, s4, hg, hl => by
    rw [List.length_cons, Nat.mul_succ] at hl
    have h1 := hg g List.mem_cons_self
    have hb := st_more (k + 1) (Sh := Sh) (s1 := s1) (s2 := s2) (s3 := s3) (ds := later.map encU) (lnext_ok k h1.1) (by rw [List.length_map, List.length_map]; unfold line; omega)
    obtain ⟨s4', e4, e⟩ := st_l2 k Sh s1 s2 s3 c r (later ++ sortU g) (.val (encU g)) (fun x hx => hg x (List.mem_cons_of_mem _ hx)) (by rw [List.length_append]; omega)
    refine ⟨s4', fun _ => e4 rfl, ?_⟩
    rw [List.append_assoc, List.map_append] at e
    rw [List.map_cons, List.flatMap_cons]
    unfold S.forL
    show (match b_law_steps_2 (k + 1) [.val Sh, s1, s2, s3, .val (encU g), .own (later.map encU)] with
      | some (.nx, ρ2) => S.forL (C.tgName 4) (b_law_steps_2 (k + 1)) (r.map encU) ρ2
      | some (.ct, ρ2) => S.forL (C.tgName 4) (b_law_steps_2 (k + 1)) (r.map encU) ρ2
      | some (.bk, ρ2) => some (.nx, ρ2)
      | some (.rt d, ρ2) => some (.rt d, ρ2)
      | none => none) = _
    rw [hb]
    exact e
def newIn (tab : List (Form × Nat)) (g : Form) : Bool := !decide (∃ p ∈ tab, p.1 = g)
theorem st_c1 (k : Nat) (Sh : Dl.D) (s2 s3 s4 : SV) (h4 : C.notOwn (some s4) = true) (tab : List (Form × Nat)) (later : List Form) (hl : later.length ≤ line) :
    l_law_steps_1 k [.val Sh, .tab (tabU tab), s2, s3, s4, .own (later.map encU)] = some (.list ((later.filter (newIn tab)).map encU), [.val Sh, .tab (tabU tab), s2, s3, s4, .val (.list (later.map encU))]) := by
  exact lc_enc (enc := encU) (vs := [4]) (it := C.iter (C.var 5)) (g := C.tgName 4) (t := C.inTab true 1 (C.var 4)) (ex := C.var 4)
    (ρ := [.val Sh, .tab (tabU tab), s2, s3, s4, .own (later.map encU)]) (ρ1 := [.val Sh, .tab (tabU tab), s2, s3, s4, .val (.list (later.map encU))]) (fs := later) (newIn tab) encU
    (by simp [C.iter, C.var, C.walk]) (by simp [h4]) hl (fun g hg => by
      refine ⟨[.val Sh, .tab (tabU tab), s2, s3, .val (encU g), .val (.list (later.map encU))], ?_, rfl⟩
      have hk := key_U g
      have hi := isSome_tab g tab
      unfold newIn
      generalize decide (∃ p ∈ tab, p.1 = g) = c at *
      generalize later.map encU = LD at *
      generalize encU g = G at *
      generalize nkU g = NK at *
      generalize tabU tab = T at *
      cases c <;> simp [C.lcTurn, C.wipeR, runDef, S.seq, S.skip, S.brk, S.cont, S.ite, S.asg, S.asgG, S.par, S.svOf, S.setItem, S.append, S.drop, S.aug, S.ret, S.retN, S.for_, C.const, C.varV, C.var, C.un1, C.bin, C.cmp, C.chain, C.ofT, C.test, C.not, C.and, C.or, C.andV, C.orV, C.ifx, C.nil, C.cons, C.star, C.tup, C.lst, C.repL, C.subOwn, C.lenOwn, C.noPart, C.part, C.sl, C.call, C.callO, C.callS, C.callK, C.popOwn, C.walk, C.iter, C.range1, C.range2, C.seqOf, C.enum, C.zip2, C.tgName, C.tgNil, C.tgCons, C.tgTup, C.yes, chk, binOp, cmpOp, cmpI, List.getElem?_cons, C.inTab, hk, hi])
/-! ### the whole -/
theorem newIn_iff {tab : List (Form × Nat)} {g : Form} : newIn tab g = true ↔ ∀ m, (g, m) ∉ tab := by
  unfold newIn
  rw [Bool.not_eq_true', decide_eq_false_iff_not]
  constructor
  · intro h m hm
    exact h ⟨(g, m), hm, rfl⟩
  · rintro h ⟨p, hp, e⟩
    exact h p.2 (by rw [← e]; exact hp)
theorem step_ne {f g : Form} (h : StepF f g) : g ≠ [] := by
  obtain ⟨u1, m, u2, b', rfl, _, rfl⟩ := h
  simp
theorem flat_le {c : Nat} : ∀ {rim : List Form}, (∀ g ∈ rim, (sortU g).length ≤ c) → (rim.flatMap sortU).length ≤ c * rim.length
  | [], _ => by simp
  | g :: r, h => by
    have h1 := h g List.mem_cons_self
    have h2 := flat_le (rim := r) (c := c) fun x hx => h x (List.mem_cons_of_mem _ hx)
    rw [List.flatMap_cons, List.length_append, List.length_cons, Nat.mul_succ]
    omega
theorem sortU_len {g : Form} (h : okU g) : (sortU g).length ≤ 3200 := by
  rw [(sortU_perm g).length_eq]
  have := flat_len (f := nextAt g) (c := 16) (nextAt_len h) g.length
  unfold nextFs
  have := h.2
  omega
abbrev AtU (u : Form) (tab : List (Form × Nat)) (rim : List Form) (n : Nat) : Prop := KB.At (fun g => Kin u g) (fun g => dF g u) tab rim n
structure Fine (u : Form) (tab : List (Form × Nat)) (rim : List Form) (n : Nat) : Prop where
  at_ : AtU u tab rim n
  hr : rim.Nodup
  ht : (tab.map (·.1)).Nodup
theorem Fine.tabLen {u : Form} (hm : manyF u ≤ 20) {tab : List (Form × Nat)} {rim : List Form} {n : Nat} (f : Fine u tab rim n) : tab.length ≤ 20 := by
  have := few_forms f.ht (u := u) fun v hv => by
    obtain ⟨p, hp, rfl⟩ := List.mem_map.mp hv
    exact ((f.at_.tab p.1 p.2).mp hp).1
  rw [List.length_map] at this
  omega
theorem Fine.rimLen {u : Form} (hm : manyF u ≤ 20) {tab : List (Form × Nat)} {rim : List Form} {n : Nat} (f : Fine u tab rim n) : rim.length ≤ 20 := by
  have := few_forms f.hr (u := u) fun v hv => ((f.at_.rim v).mp hv).1
  omega
theorem Fine.fresh {u : Form} {tab : List (Form × Nat)} {rim : List Form} {n : Nat} (f : Fine u tab rim n) : ∀ g ∈ rim, ∀ m, (g, m) ∉ tab := fun g hg m h => by
  have h1 := (f.at_.rim g).mp hg
  have h2 := (f.at_.tab g m).mp h
  omega
theorem keys_add {tab : List (Form × Nat)} {rim : List Form} {n : Nat} (hr : rim.Nodup) (ht : (tab.map (·.1)).Nodup) (hf : ∀ g ∈ rim, ∀ m, (g, m) ∉ tab) : ((tab ++ rim.map fun x => (x, n)).map (·.1)).Nodup := by
  have e : (rim.map fun x => (x, n)).map (·.1) = rim := by rw [List.map_map]; exact List.map_id _
  rw [List.map_append, e, List.nodup_append]
  refine ⟨ht, hr, fun a ha b hb e => ?_⟩
  obtain ⟨p, hp, h⟩ := List.mem_map.mp ha
  exact hf b hb p.2 (by rw [← e, ← h]; exact hp)
theorem st_turn (k : Nat) (Sh : Dl.D) {u : Form} (hu : okU u) (hm : manyF u ≤ 20) {tab : List (Form × Nat)} {rim : List Form} {n : Nat} (f : Fine u tab rim n) (s4 s5 : SV) (h4 : C.notOwn (some s4) = true) :
    ∃ rim' s4' s5', C.notOwn (some s4') = true ∧ Fine u (tab ++ rim.map fun x => (x, n)) rim' (n + 1) ∧
      b_law_steps_3 (k + 1) [.val Sh, .tab (tabU tab), .val (.list (rim.map encU)), .val (nI n), s4, s5] = some (.nx, [.val Sh, .tab (tabU (tab ++ rim.map fun x => (x, n))), .own (rim'.map encU), .val (nI (n + 1)), s4', s5']) := by
  have tl := f.tabLen hm
  have rl := f.rimLen hm
  have okr : ∀ g ∈ rim, okU g := fun g hg => hu.kin ((f.at_.rim g).mp hg).1
  obtain ⟨a4, e4, e1⟩ := st_l1 (k + 1) Sh (.val (.list (rim.map encU))) s5 n rim tab s4 (by omega) f.hr f.fresh
  obtain ⟨b4, e4', e2⟩ := st_l2 k Sh (.tab (tabU (tab ++ rim.map fun x => (x, n)))) (.val (.list (rim.map encU))) (.val (nI (n + 1))) 3200 rim [] a4 (fun g hg => ⟨okr g hg, sortU_len (okr g hg)⟩) (by simp; omega)
  have hb4 := e4' (e4 h4)
  have ll := flat_le (c := 3200) fun g hg => sortU_len (okr g hg)
  have e3 := st_c1 (k + 1) Sh (.val (.list (rim.map encU))) (.val (nI (n + 1))) b4 hb4 (tab ++ rim.map fun x => (x, n)) ([] ++ rim.flatMap sortU) (by rw [List.nil_append]; unfold line; omega)
  rw [List.nil_append] at e2 e3
  have hin : ∀ g, g ∈ (rim.flatMap sortU).filter (newIn (tab ++ rim.map fun x => (x, n))) ↔ (∃ f ∈ rim, g ∈ nextFs f) ∧ ∀ m, (g, m) ∉ tab ++ rim.map fun x => (x, n) := fun g => by
    rw [List.mem_filter, newIn_iff, List.mem_flatMap]
    constructor
    · rintro ⟨⟨x, hx, h⟩, h'⟩
      exact ⟨⟨x, hx, mem_next.mpr (mem_sortU.mp h)⟩, h'⟩
    · rintro ⟨⟨x, hx, h⟩, h'⟩
      exact ⟨⟨x, hx, mem_sortU.mpr (mem_next.mp h)⟩, h'⟩
  have hkin : ∀ g ∈ (rim.flatMap sortU).filter (newIn (tab ++ rim.map fun x => (x, n))), Kin u g ∧ g ≠ [] := fun g hg => by
    obtain ⟨⟨x, hx, h⟩, _⟩ := (hin g).mp hg
    have st := mem_next.mp h
    exact ⟨((f.at_.rim x).mp hx).1.trans st.kin.symm, step_ne st⟩
  obtain ⟨rim', es, hn', hmem⟩ := set_U (fs := (rim.flatMap sortU).filter (newIn (tab ++ rim.map fun x => (x, n)))) (fun g hg => hu.kin (hkin g hg).1) (fun g hg => (hkin g hg).2) (by
    have := few_forms (nodup_onceU ((rim.flatMap sortU).filter (newIn (tab ++ rim.map fun x => (x, n))))) (u := u) fun v hv => (hkin v (mem_onceU.mp hv)).1
    omega)
  refine ⟨rim', b4, .val (.list ((rim.flatMap sortU).map encU)), hb4, ⟨KB.At.turn (gr_forms u) f.at_ fun g => by rw [hmem, hin], hn', keys_add f.hr f.ht f.fresh⟩, ?_⟩
  have w1 : C.iter (C.var 2) [.val Sh, .tab (tabU tab), .val (.list (rim.map encU)), .val (nI n), s4, s5] = some (rim.map encU, [.val Sh, .tab (tabU tab), .val (.list (rim.map encU)), .val (nI n), s4, s5]) := by
    simp [C.iter, C.var, C.walk]
  have w2 : C.iter (C.var 2) [.val Sh, .tab (tabU (tab ++ rim.map fun x => (x, n))), .val (.list (rim.map encU)), .val (nI (n + 1)), a4, .own []] = some (rim.map encU, [.val Sh, .tab (tabU (tab ++ rim.map fun x => (x, n))), .val (.list (rim.map encU)), .val (nI (n + 1)), a4, .own []]) := by
    simp [C.iter, C.var, C.walk]
  have hadd : opAdd (nI n) (.int 1) = some (nI (n + 1)) := nI_add n 1
  have p1 : S.par 3 5 true true (C.bin (binOp .Add) (C.var 3) (C.const (.int 1))) (C.lst C.nil) [.val Sh, .tab (tabU (tab ++ rim.map fun x => (x, n))), .val (.list (rim.map encU)), .val (nI n), a4, s5] = some (.nx, [.val Sh, .tab (tabU (tab ++ rim.map fun x => (x, n))), .val (.list (rim.map encU)), .val (nI (n + 1)), a4, .own []]) := by
    have hv : S.svOf true (nI (n + 1)) = .val (nI (n + 1)) := rfl
    generalize nI (n + 1) = N1 at *
    generalize nI n = N at *
    generalize tabU (tab ++ rim.map fun x => (x, n)) = T at *
    generalize rim.map encU = R at *
    have hv' : S.svOf true (.list []) = .own [] := rfl
    simp [S.par, C.bin, C.var, C.const, C.lst, C.nil, chk, binOp, hadd, hv, hv', line]
  have a1 : S.asg 2 true (C.un1 opSortedSet (l_law_steps_1 (k + 1))) [.val Sh, .tab (tabU (tab ++ rim.map fun x => (x, n))), .val (.list (rim.map encU)), .val (nI (n + 1)), b4, .own ((rim.flatMap sortU).map encU)] = some (.nx, [.val Sh, .tab (tabU (tab ++ rim.map fun x => (x, n))), .own (rim'.map encU), .val (nI (n + 1)), b4, .val (.list ((rim.flatMap sortU).map encU))]) := by
    unfold S.asg C.un1
    rw [e3]
    dsimp only
    rw [es]
    rfl
  unfold b_law_steps_3
  exact seq_ok (for_ok w1 e1) (seq_ok p1 (seq_ok (for_ok w2 e2) a1))
theorem st_while (k : Nat) (Sh : Dl.D) {u : Form} (hu : okU u) (hm : manyF u ≤ 20) {B : Nat} (hB : ∀ g, Kin u g → dF g u ≤ B) : ∀ (N : Nat) (tab : List (Form × Nat)) (rim : List Form) (n : Nat) (s4 s5 : SV), B + 2 ≤ N + n → 0 < N → Fine u tab rim n → C.notOwn (some s4) = true →
    ∃ tab' s2' s3' s4' s5', (tab'.map (·.1)).Nodup ∧ (∀ g m, (g, m) ∈ tab' ↔ Kin u g ∧ dF g u = m) ∧
      S.whileL (C.cmp (cmpOp .NotEq) (C.var 2) (C.lst C.nil)) (b_law_steps_3 (k + 1)) N [.val Sh, .tab (tabU tab), .own (rim.map encU), .val (nI n), s4, s5] = some (.nx, [.val Sh, .tab (tabU tab'), s2', s3', s4', s5'])
  | 0, _, _, _, _, _, _, h0, _, _ => absurd h0 (Nat.lt_irrefl _)
  | N + 1, tab, rim, n, s4, s5, hN, _, f, h4 => by
    have okr : ∀ g ∈ rim, okU g := fun g hg => hu.kin ((f.at_.rim g).mp hg).1
    have q := eq_nilL (shp_of (L_can okr) (by omega))
    have tst : C.cmp (cmpOp .NotEq) (C.var 2) (C.lst C.nil) [.val Sh, .tab (tabU tab), .own (rim.map encU), .val (nI n), s4, s5] = some (!rim.isEmpty, [.val Sh, .tab (tabU tab), .val (.list (rim.map encU)), .val (nI n), s4, s5]) := by
      have e : (rim.map encU).isEmpty = rim.isEmpty := by cases rim <;> rfl
      rw [e] at q
      generalize rim.map encU = R at *
      generalize rim.isEmpty = b at *
      simp [C.cmp, C.var, C.lst, C.nil, chk, cmpOp, q, line]
    unfold S.whileL
    rw [tst]
    by_cases hr : rim = []
    · subst hr
      exact ⟨tab, _, _, _, _, f.ht, fun g m => KB.At.whole (gr_forms u) f.at_ g m, rfl⟩
    · have hne : (!rim.isEmpty) = true := by cases rim <;> simp_all
      rw [hne]
      have hn : n ≤ B := by
        cases Nat.lt_or_ge B n with
        | inl h => exact absurd (KB.At.done f.at_ hB h) hr
        | inr h => exact h
      obtain ⟨rim', s4', s5', h4', f', e⟩ := st_turn k Sh hu hm f s4 s5 h4
      obtain ⟨tab', t2, t3, t4, t5, g1, g2, ew⟩ := st_while k Sh hu hm hB N _ rim' (n + 1) s4' s5' (by omega) (by omega) f' h4'
      refine ⟨tab', t2, t3, t4, t5, g1, g2, ?_⟩
      dsimp only
      rw [e]
      exact ew
theorem steps_ok (k : Nat) {u : Form} (hu : okU u) (hm : manyF u ≤ 20) : ∃ tab : List (Form × Nat), (tab.map (·.1)).Nodup ∧ (∀ g m, (g, m) ∈ tab ↔ Kin u g ∧ dF g u = m) ∧ (I_law_steps (k + 2)).sem [] [encU u] = some (.dict (tabU tab), []) := by
  have hB : ∀ g, Kin u g → dF g u ≤ u.length * 256 := fun g hg => by rw [dF_comm]; exact dF_le hu hg
  have h2 := hu.2
  obtain ⟨tab', t2, t3, t4, t5, g1, g2, ew⟩ := st_while k (encU u) hu hm hB S.fuel [] [u] 0 .un .un (by unfold S.fuel; omega) (by unfold S.fuel; omega) ⟨KB.Gr.start (gr_forms u), by simp, by simp⟩ rfl
  refine ⟨tab', g1, g2, ?_⟩
  rw [sem_law_steps]
  refine run_ok (ρ := [.val (encU u), .tab (tabU tab'), t2, t3, t4, t5]) rfl ?_
  unfold z_law_steps
  refine seq_ok (ρ1 := [.val (encU u), .tab [], .own [encU u], .val (nI 0), .un, .un]) rfl (seq_ok ew ?_)
  rfl
end K86

set_option maxRecDepth 100000
set_option maxHeartbeats 4000000
/-! The plain law of k86, part 25: passings of forms that are lists; the same as itself. -/
namespace K86
open PySem PySem.Spec L2 Dl KM
open PyProof.Rows hiding St
theorem pass_c1s (k : Nat) {m m' : Fm} (hm : okM m) (hm' : okM m') (s0 s1 s2 : SV) :
    l_passings_1 (k + 1) [s0, s1, s2, .val (softF m), .val (softF m'), .un, .un] = some (.list (((B 0 m.bs).zip (B 0 m'.bs)).map fun p => .int (gapI p)), [s0, s1, s2, .val (softF m), .val (softF m'), .un, .un]) := by
  have b1 := behind_ok k m.bs (by have := hm.bl; omega)
  have b2 := behind_ok k m'.bs (by have := hm'.bl; omega)
  have i1 : item (softF m) (.int 3) = some (.str (wordS m.bs)) := rfl
  have i2 : item (softF m') (.int 3) = some (.str (wordS m'.bs)) := rfl
  have hl : (B 0 m.bs).length ≤ 16 := by
    rw [B_len]
    have := List.count_le_length (l := m.bs) (a := true)
    have := hm.bl
    omega
  have e := lc_enc (enc := fun p : Nat × Nat => .tuple [nI p.1, nI p.2]) (vs := [5, 6]) (it := C.zip2 (C.call (I_behind_by (k + 1)) (C.cons (C.subOwn 3 (C.const (.int 3))) C.nil)) (C.call (I_behind_by (k + 1)) (C.cons (C.subOwn 4 (C.const (.int 3))) C.nil))) (g := C.tgTup (C.tgCons (C.tgName 5) (C.tgCons (C.tgName 6) C.tgNil))) (t := C.yes) (ex := C.un1 opAbs (C.bin (binOp .Sub) (C.var 5) (C.var 6)))
    (ρ := [s0, s1, s2, .val (softF m), .val (softF m'), .un, .un]) (ρ1 := [s0, s1, s2, .val (softF m), .val (softF m'), .un, .un]) (fs := (B 0 m.bs).zip (B 0 m'.bs)) (fun _ => true) (fun p => .int (gapI p)) (by
      rw [← zip_map]
      generalize (B 0 m.bs).map nI = X at *
      generalize (B 0 m'.bs).map nI = Y at *
      generalize softF m = M at *
      generalize softF m' = M' at *
      simp [runDef, S.seq, S.skip, S.brk, S.cont, S.ite, S.asg, S.asgG, S.par, S.svOf, S.setItem, S.append, S.drop, S.aug, S.ret, S.retN, S.for_, C.const, C.varV, C.var, C.un1, C.bin, C.cmp, C.chain, C.ofT, C.test, C.not, C.and, C.or, C.andV, C.orV, C.ifx, C.nil, C.cons, C.star, C.tup, C.lst, C.repL, C.subOwn, C.lenOwn, C.noPart, C.part, C.sl, C.call, C.callO, C.callS, C.callK, C.popOwn, C.walk, C.iter, C.range1, C.range2, C.seqOf, C.enum, C.zip2, C.tgName, C.tgNil, C.tgCons, C.tgTup, C.yes, chk, binOp, cmpOp, cmpI, List.getElem?_cons, i1, i2, b1, b2]) rfl (by rw [List.length_zip]; unfold line; omega) (fun p hp => by
      refine ⟨[s0, s1, s2, .val (softF m), .val (softF m'), .val (nI p.1), .val (nI p.2)], ?_, rfl⟩
      have h1 := gap_abs p.1 p.2
      have h2 : opSub (nI p.1) (nI p.2) = some (.int ((p.1 : Int) - (p.2 : Int))) := rfl
      have h3 : PyData.int (gapI p) = .int (gap p.1 p.2 : Nat) := rfl
      rw [h3]
      generalize PyData.int (gap p.1 p.2 : Nat) = G at *
      generalize (p.1 : Int) - (p.2 : Int) = dd at *
      generalize nI p.1 = P1 at *
      generalize nI p.2 = P2 at *
      generalize softF m = M at *
      generalize softF m' = M' at *
      simp [C.lcTurn, C.wipeR, runDef, S.seq, S.skip, S.brk, S.cont, S.ite, S.asg, S.asgG, S.par, S.svOf, S.setItem, S.append, S.drop, S.aug, S.ret, S.retN, S.for_, C.const, C.varV, C.var, C.un1, C.bin, C.cmp, C.chain, C.ofT, C.test, C.not, C.and, C.or, C.andV, C.orV, C.ifx, C.nil, C.cons, C.star, C.tup, C.lst, C.repL, C.subOwn, C.lenOwn, C.noPart, C.part, C.sl, C.call, C.callO, C.callS, C.callK, C.popOwn, C.walk, C.iter, C.range1, C.range2, C.seqOf, C.enum, C.zip2, C.tgName, C.tgNil, C.tgCons, C.tgTup, C.yes, chk, binOp, cmpOp, cmpI, List.getElem?_cons, h1, h2])
  rw [List.filter_eq_self.mpr (fun _ _ => rfl)] at e
  exact e
theorem pass_loops (k : Nat) : ∀ (u v : Form) (acc : Int) (s0 s1 s3 s4 : SV), (∀ m ∈ u, okM m) → (∀ m ∈ v, okM m) → ∃ (s3' s4' : SV),
    S.forL (C.tgTup (C.tgCons (C.tgName 3) (C.tgCons (C.tgName 4) C.tgNil))) (b_passings_1 (k + 1)) (C.zipD (u.map softF) (v.map softF)) [s0, s1, .val (.int acc), s3, s4, .un, .un] = some (.nx, [s0, s1, .val (.int (acc + (dF u v : Nat))), s3', s4', .un, .un])
  | [], _, acc, s0, s1, s3, s4, _, _ => ⟨s3, s4, by simp [C.zipD, S.forL, dF]⟩
  | _ :: _, [], acc, s0, s1, s3, s4, _, _ => ⟨s3, s4, by simp [C.zipD, S.forL, dF]⟩
  | m :: u, m' :: v, acc, s0, s1, s3, s4, hu, hv => by
    have c1 := pass_c1s k (hu m List.mem_cons_self) (hv m' List.mem_cons_self) s0 s1 (.val (.int acc))
    have hs := sum_map ((B 0 m.bs).zip (B 0 m'.bs)) gapI
    rw [gap_sum] at hs
    obtain ⟨s3', s4', e⟩ := pass_loops k u v (acc + (dst (B 0 m.bs) (B 0 m'.bs) : Nat)) s0 s1 (.val (softF m)) (.val (softF m')) (fun n hn => hu n (List.mem_cons_of_mem _ hn)) (fun n hn => hv n (List.mem_cons_of_mem _ hn))
    have ea : acc + (dst (B 0 m.bs) (B 0 m'.bs) : Nat) + (dF u v : Nat) = acc + (dF (m :: u) (m' :: v) : Nat) := by
      simp only [dF]
      omega
    rw [ea] at e
    have hb : b_passings_1 (k + 1) [s0, s1, .val (.int acc), .val (softF m), .val (softF m'), .un, .un] = some (.nx, [s0, s1, .val (.int (acc + (dst (B 0 m.bs) (B 0 m'.bs) : Nat))), .val (softF m), .val (softF m'), .un, .un]) := by
      generalize (((B 0 m.bs).zip (B 0 m'.bs)).map fun p => PyData.int (gapI p)) = G at *
      generalize ((dst (B 0 m.bs) (B 0 m'.bs) : Nat) : Int) = X at *
      generalize softF m = M at *
      generalize softF m' = M' at *
      simp [b_passings_1, runDef, S.seq, S.skip, S.brk, S.cont, S.ite, S.asg, S.asgG, S.par, S.svOf, S.setItem, S.append, S.drop, S.aug, S.ret, S.retN, S.for_, C.const, C.varV, C.var, C.un1, C.bin, C.cmp, C.chain, C.ofT, C.test, C.not, C.and, C.or, C.andV, C.orV, C.ifx, C.nil, C.cons, C.star, C.tup, C.lst, C.repL, C.subOwn, C.lenOwn, C.noPart, C.part, C.sl, C.call, C.callO, C.callS, C.callK, C.popOwn, C.walk, C.iter, C.range1, C.range2, C.seqOf, C.enum, C.zip2, C.tgName, C.tgNil, C.tgCons, C.tgTup, C.yes, chk, binOp, cmpOp, cmpI, List.getElem?_cons, augF, c1, hs]
    refine ⟨s3', s4', ?_⟩
    rw [List.map_cons, List.map_cons, C.zipD, S.forL]
    generalize (((B 0 m.bs).zip (B 0 m'.bs)).map fun p => PyData.int (gapI p)) = G at *
    generalize C.zipD (u.map softF) (v.map softF) = Z at *
    generalize ((dst (B 0 m.bs) (B 0 m'.bs) : Nat) : Int) = X at *
    generalize acc + (dF (m :: u) (m' :: v) : Nat) = Y at *
    generalize softF m = M at *
    generalize softF m' = M' at *
    simp [runDef, S.seq, S.skip, S.brk, S.cont, S.ite, S.asg, S.asgG, S.par, S.svOf, S.setItem, S.append, S.drop, S.aug, S.ret, S.retN, S.for_, C.const, C.varV, C.var, C.un1, C.bin, C.cmp, C.chain, C.ofT, C.test, C.not, C.and, C.or, C.andV, C.orV, C.ifx, C.nil, C.cons, C.star, C.tup, C.lst, C.repL, C.subOwn, C.lenOwn, C.noPart, C.part, C.sl, C.call, C.callO, C.callS, C.callK, C.popOwn, C.walk, C.iter, C.range1, C.range2, C.seqOf, C.enum, C.zip2, C.tgName, C.tgNil, C.tgCons, C.tgTup, C.yes, chk, binOp, cmpOp, cmpI, List.getElem?_cons, hb, e]
theorem pass_oks (k : Nat) {u v : Form} (hu : okU u) (hk : Kin u v) : (I_passings (k + 6)).sem [] [softU u, softU v] = some (.int (dF u v : Nat), []) := by
  rw [sem_passings]
  have hv := hu.kin hk
  have hc := check_ok (k + 4) [(softU u, u), (softU v, v)] u (by simp) (by simp) hu (fun p hp => by
    simp at hp
    rcases hp with rfl | rfl
    · exact tup_U k hu (.inl rfl)
    · exact tup_U k hv (.inl rfl)) (fun p hp => by
    simp at hp
    rcases hp with rfl | rfl
    · exact Kin.refl u
    · exact hk)
  replace hc : (I_check_kinds (k + 5)).sem [] [.tuple [softU u, softU v]] = some (.none, []) := hc
  obtain ⟨s3, s4, e⟩ := pass_loops (k + 4) u v 0 (.val (softU u)) (.val (softU v)) .un .un hu.1 hv.1
  rw [Int.zero_add] at e
  generalize ((dF u v : Nat) : Int) = Y at *
  have hU : softU u = .list (u.map softF) := rfl
  have hV : softU v = .list (v.map softF) := rfl
  rw [hU, hV] at hc e ⊢
  replace e : S.forL (C.tgTup (C.tgCons (C.tgName 3) (C.tgCons (C.tgName 4) C.tgNil))) (b_passings_1 (k + 5)) (C.zipD (u.map softF) (v.map softF)) _ = _ := e
  generalize u.map softF = A at *
  generalize v.map softF = A' at *
  simp [z_passings, runDef, S.seq, S.skip, S.brk, S.cont, S.ite, S.asg, S.asgG, S.par, S.svOf, S.setItem, S.append, S.drop, S.aug, S.ret, S.retN, S.for_, C.const, C.varV, C.var, C.un1, C.bin, C.cmp, C.chain, C.ofT, C.test, C.not, C.and, C.or, C.andV, C.orV, C.ifx, C.nil, C.cons, C.star, C.tup, C.lst, C.repL, C.subOwn, C.lenOwn, C.noPart, C.part, C.sl, C.call, C.callO, C.callS, C.callK, C.popOwn, C.walk, C.iter, C.range1, C.range2, C.seqOf, C.enum, C.zip2, C.tgName, C.tgNil, C.tgCons, C.tgTup, C.yes, chk, binOp, cmpOp, cmpI, List.getElem?_cons, hc, e, line_small]
theorem eq_bool (a b : Bool) : opEq (.bool a) (.bool b) = some (a == b) := by cases a <;> cases b <;> decide +kernel
theorem bools_true : ∀ n : Nat, bools? (List.replicate n (PyData.bool true)) = some (List.replicate n true)
  | 0 => rfl
  | n + 1 => by
    show (bools? (List.replicate n (PyData.bool true))).map (true :: ·) = _
    rw [bools_true n]
    rfl
theorem same_str (k : Nat) {s : Str} (h : okS s) : (I_law_same (k + 1)).sem [] [.str s, .str s] = some (.bool true, []) := by
  rw [sem_law_same]
  have q := eq_str h h
  simp at q
  have q2 := eq_bool false false
  simp at q2
  simp [z_law_same, runDef, S.seq, S.skip, S.brk, S.cont, S.ite, S.asg, S.asgG, S.par, S.svOf, S.setItem, S.append, S.drop, S.aug, S.ret, S.retN, S.for_, C.const, C.varV, C.var, C.un1, C.bin, C.cmp, C.chain, C.ofT, C.test, C.not, C.and, C.or, C.andV, C.orV, C.ifx, C.nil, C.cons, C.star, C.tup, C.lst, C.repL, C.subOwn, C.lenOwn, C.noPart, C.part, C.sl, C.call, C.callO, C.callS, C.callK, C.popOwn, C.walk, C.iter, C.range1, C.range2, C.seqOf, C.enum, C.zip2, C.tgName, C.tgNil, C.tgCons, C.tgTup, C.yes, chk, binOp, cmpOp, cmpI, List.getElem?_cons, isTys, isTy, truth, isNone, q, q2]
theorem same_bool (k : Nat) (b : Bool) : (I_law_same (k + 1)).sem [] [.bool b, .bool b] = some (.bool true, []) := by
  rw [sem_law_same]
  have q := eq_bool b b
  simp at q
  have q2 := eq_bool false false
  simp at q2
  have q3 := eq_bool true true
  simp at q3
  simp [z_law_same, runDef, S.seq, S.skip, S.brk, S.cont, S.ite, S.asg, S.asgG, S.par, S.svOf, S.setItem, S.append, S.drop, S.aug, S.ret, S.retN, S.for_, C.const, C.varV, C.var, C.un1, C.bin, C.cmp, C.chain, C.ofT, C.test, C.not, C.and, C.or, C.andV, C.orV, C.ifx, C.nil, C.cons, C.star, C.tup, C.lst, C.repL, C.subOwn, C.lenOwn, C.noPart, C.part, C.sl, C.call, C.callO, C.callS, C.callK, C.popOwn, C.walk, C.iter, C.range1, C.range2, C.seqOf, C.enum, C.zip2, C.tgName, C.tgNil, C.tgCons, C.tgTup, C.yes, chk, binOp, cmpOp, cmpI, List.getElem?_cons, isTys, isTy, truth, isNone, q, q2, q3]
theorem zip_self {α : Type} (e : α → Dl.D) : ∀ as : List α, C.zipD (as.map e) (as.map e) = as.map fun a => .tuple [e a, e a]
  | [] => rfl
  | a :: r => by
    rw [List.map_cons, C.zipD, zip_self e r]
    rfl
theorem same_map (k : Nat) {α : Type} (as : List α) (e : α → Dl.D) (hl : as.length ≤ 100000) (h : ∀ a ∈ as, (I_law_same (k + 1)).sem [] [e a, e a] = some (.bool true, [])) {d : Dl.D} (hd : d = .list (as.map e) ∨ d = .tuple (as.map e)) : (I_law_same (k + 2)).sem [] [d, d] = some (.bool true, []) := by
  rw [sem_law_same]
  have hz : C.zip2 (C.var 0) (C.var 1) [.val d, .val d, .un, .un, .un] = some (as.map fun a => PyData.tuple [e a, e a], [.val d, .val d, .un, .un, .un]) := by
    rw [← zip_self]
    rcases hd with rfl | rfl <;> simp [runDef, S.seq, S.skip, S.brk, S.cont, S.ite, S.asg, S.asgG, S.par, S.svOf, S.setItem, S.append, S.drop, S.aug, S.ret, S.retN, S.for_, C.const, C.varV, C.var, C.un1, C.bin, C.cmp, C.chain, C.ofT, C.test, C.not, C.and, C.or, C.andV, C.orV, C.ifx, C.nil, C.cons, C.star, C.tup, C.lst, C.repL, C.subOwn, C.lenOwn, C.noPart, C.part, C.sl, C.call, C.callO, C.callS, C.callK, C.popOwn, C.walk, C.iter, C.range1, C.range2, C.seqOf, C.enum, C.zip2, C.tgName, C.tgNil, C.tgCons, C.tgTup, C.yes, chk, binOp, cmpOp, cmpI, List.getElem?_cons]
  have el := lc_enc (enc := fun a => PyData.tuple [e a, e a]) (vs := [2, 3]) (it := C.zip2 (C.var 0) (C.var 1)) (g := C.tgTup (C.tgCons (C.tgName 2) (C.tgCons (C.tgName 3) C.tgNil))) (t := C.yes) (ex := C.call (I_law_same (k + 1)) (C.cons (C.var 2) (C.cons (C.var 3) C.nil)))
    (ρ := [.val d, .val d, .un, .un, .un]) (ρ1 := [.val d, .val d, .un, .un, .un]) (fs := as) (fun _ => true) (fun _ => .bool true) hz rfl (by unfold line; omega) (fun a ha => by
      refine ⟨[.val d, .val d, .val (e a), .val (e a), .un], ?_, rfl⟩
      have h1 := h a ha
      simp [C.lcTurn, C.wipeR, runDef, S.seq, S.skip, S.brk, S.cont, S.ite, S.asg, S.asgG, S.par, S.svOf, S.setItem, S.append, S.drop, S.aug, S.ret, S.retN, S.for_, C.const, C.varV, C.var, C.un1, C.bin, C.cmp, C.chain, C.ofT, C.test, C.not, C.and, C.or, C.andV, C.orV, C.ifx, C.nil, C.cons, C.star, C.tup, C.lst, C.repL, C.subOwn, C.lenOwn, C.noPart, C.part, C.sl, C.call, C.callO, C.callS, C.callK, C.popOwn, C.walk, C.iter, C.range1, C.range2, C.seqOf, C.enum, C.zip2, C.tgName, C.tgNil, C.tgCons, C.tgTup, C.yes, chk, binOp, cmpOp, cmpI, List.getElem?_cons, h1])
  rw [List.filter_eq_self.mpr (fun _ _ => rfl)] at el
  have c1 : l_law_same_1 (k + 1) [.val d, .val d, .un, .un, .un] = some (.list (List.replicate as.length (.bool true)), [.val d, .val d, .un, .un, .un]) := by
    have : as.map (fun _ => PyData.bool true) = List.replicate as.length (.bool true) := List.map_const' ..
    rw [← this]
    exact el
  have hall : opAll (.list (List.replicate as.length (.bool true))) = some (.bool true) := by
    show (bools? (List.replicate as.length (PyData.bool true))).map (fun bs => PyData.bool (bs.all id)) = _
    rw [bools_true]
    simp
  have ty : isTys [.list, .tuple] d = true := by rcases hd with rfl | rfl <;> rfl
  have hlen : opLen d = some (.int (as.length : Nat)) := by
    rcases hd with rfl | rfl
    · show some (PyData.int ((as.map e).length : Nat)) = _
      rw [List.length_map]
    · show some (PyData.int ((as.map e).length : Nat)) = _
      rw [List.length_map]
  have q := eq_int (as.length : Nat) (as.length : Nat)
  simp at q
  have q1 := eq_bool (isTys [.list] d) (isTys [.list] d)
  have q2 := eq_bool (isTys [.tuple] d) (isTys [.tuple] d)
  simp at q1 q2
  generalize List.replicate as.length (PyData.bool true) = RR at *
  generalize ((as.length : Nat) : Int) = L at *
  simp [z_law_same, runDef, S.seq, S.skip, S.brk, S.cont, S.ite, S.asg, S.asgG, S.par, S.svOf, S.setItem, S.append, S.drop, S.aug, S.ret, S.retN, S.for_, C.const, C.varV, C.var, C.un1, C.bin, C.cmp, C.chain, C.ofT, C.test, C.not, C.and, C.or, C.andV, C.orV, C.ifx, C.nil, C.cons, C.star, C.tup, C.lst, C.repL, C.subOwn, C.lenOwn, C.noPart, C.part, C.sl, C.call, C.callO, C.callS, C.callK, C.popOwn, C.walk, C.iter, C.range1, C.range2, C.seqOf, C.enum, C.zip2, C.tgName, C.tgNil, C.tgCons, C.tgTup, C.yes, chk, binOp, cmpOp, cmpI, List.getElem?_cons, truth, ty, q, q1, q2, hlen, c1, hall]
theorem same_strs (k : Nat) {xs : List Str} (hx : ∀ x ∈ xs, okS x) (hl : xs.length ≤ 1000) : (I_law_same (k + 2)).sem [] [.tuple (xs.map .str), .tuple (xs.map .str)] = some (.bool true, []) :=
  same_map k xs PyData.str (by omega) (fun x h => same_str k (hx x h)) (.inr rfl)
theorem same_F (k : Nat) {m : Fm} (h : okM m) : (I_law_same (k + 3)).sem [] [encF m, encF m] = some (.bool true, []) := by
  have h1 := same_strs k h.x (by have := h.xl; omega)
  have h2 := same_strs k h.y (by have := h.yl; omega)
  exact same_map (k + 1) [PyData.str (wayS m.w), .tuple (m.xs.map .str), .tuple (m.ys.map .str), .str (wordS m.bs)] id (by simp) (fun a ha => by
    simp at ha
    rcases ha with rfl | rfl | rfl | rfl
    · exact same_str _ (ok_way m.w)
    · exact h1
    · exact h2
    · exact same_str _ (okS_word m.bs)) (.inr rfl)
theorem same_U (k : Nat) {u : Form} (h : okU u) : (I_law_same (k + 4)).sem [] [encU u, encU u] = some (.bool true, []) := by
  have := h.2
  exact same_map (k + 2) u encF (by omega) (fun m hm => same_F k (h.1 m hm)) (.inr rfl)
theorem same_int (k : Nat) (n : Int) : (I_law_same (k + 1)).sem [] [.int n, .int n] = some (.bool true, []) := by
  rw [sem_law_same]
  have q := eq_int n n
  simp at q
  simp [z_law_same, runDef, S.seq, S.skip, S.brk, S.cont, S.ite, S.asg, S.asgG, S.par, S.svOf, S.setItem, S.append, S.drop, S.aug, S.ret, S.retN, S.for_, C.const, C.varV, C.var, C.un1, C.bin, C.cmp, C.chain, C.ofT, C.test, C.not, C.and, C.or, C.andV, C.orV, C.ifx, C.nil, C.cons, C.star, C.tup, C.lst, C.repL, C.subOwn, C.lenOwn, C.noPart, C.part, C.sl, C.call, C.callO, C.callS, C.callK, C.popOwn, C.walk, C.iter, C.range1, C.range2, C.seqOf, C.enum, C.zip2, C.tgName, C.tgNil, C.tgCons, C.tgTup, C.yes, chk, binOp, cmpOp, cmpI, List.getElem?_cons, isTys, isTy, truth, isNone, q]
theorem same_Us (k : Nat) {us : List Form} (h : ∀ u ∈ us, okU u) (hl : us.length ≤ 100000) : (I_law_same (k + 5)).sem [] [.list (us.map encU), .list (us.map encU)] = some (.bool true, []) :=
  same_map (k + 3) us encU hl (fun u hu => same_U k (h u hu)) (.inl rfl)
theorem same_got (k : Nat) (n : Int) {us : List Form} (h : ∀ u ∈ us, okU u) (hl : us.length ≤ 100000) : (I_law_same (k + 6)).sem [] [.list [.int n, .int n, .int n, .list (us.map encU), .list (us.map encU)], .list [.int n, .int n, .int n, .list (us.map encU), .list (us.map encU)]] = some (.bool true, []) :=
  same_map (k + 4) [PyData.int n, .int n, .int n, .list (us.map encU), .list (us.map encU)] id (by simp) (fun a ha => by
    have e : a = .int n ∨ a = .list (us.map encU) := by
      simp at ha
      rcases ha with h | h | h | h | h <;> simp [h]
    rcases e with rfl | rfl
    · exact same_int _ n
    · exact same_Us k h hl) (.inl rfl)
end K86

set_option maxRecDepth 100000
set_option maxHeartbeats 4000000
/-! The plain law of k86, part 26: every drawn form, and the whole law. -/
namespace K86
open PySem PySem.Spec L2 Dl KM
open PyProof.Rows hiding St
theorem forL_inv2 {g : GV} {b : ZV} : ∀ (ds : List Dl.D) (I : Nat → Rho → Prop) (h : ∀ i d, ds[i]? = some d → ∀ ρ, I i ρ → ∃ ρ1 ρ2, g d ρ = some ρ1 ∧ (b ρ1 = some (.nx, ρ2) ∨ b ρ1 = some (.ct, ρ2)) ∧ I (i + 1) ρ2) {ρ : Rho} (h0 : I 0 ρ), ∃ ρ', S.forL g b ds ρ = some (.nx, ρ') ∧ I ds.length ρ'
  | [], I, h, ρ, h0 => ⟨ρ, rfl, h0⟩
  | d :: ds, I, h, ρ, h0 => by
    obtain ⟨ρ1, ρ2, e1, e2, hI⟩ := h 0 d rfl ρ h0
    obtain ⟨ρ', e, hI'⟩ := forL_inv2 ds (fun i => I (i + 1)) (fun i x hx σ hσ => h (i + 1) x (by simpa using hx) σ hσ) hI
    refine ⟨ρ', ?_, hI'⟩
    unfold S.forL
    rw [e1]
    rcases e2 with e2 | e2 <;> (simp only [e2]; exact e)
theorem okF.okM {m : Fm} (h : okF m) : okM m := by
  have hl := h.p.length_eq
  rw [List.length_append, List.length_replicate, List.length_replicate] at hl
  have := h.xl
  have := h.yl
  exact ⟨fun t ht => pool_ok t (h.x t (List.mem_append_left _ ht)), fun t ht => pool_ok t (h.x t (List.mem_append_right _ ht)), by omega, by omega, by omega⟩
/-! ### one draw -/
theorem g1 (k : Nat) {os os' L : List Dl.D} {U G : Dl.D} {T : TabD} {s1 s4 s5 s6 s7 s8 : SV} (h : (I_law_of k).sem os [.list L] = some (G, os')) (h4 : s4 = .val (.list L) ∨ s4 = .own L) :
    S.asg 6 false (C.callO (I_law_of k) 0 (C.cons (C.var 4) C.nil)) [.own os, s1, .val U, .tab T, s4, s5, s6, s7, s8] = some (.nx, [.own os', s1, .val U, .tab T, .val (.list L), s5, .val G, s7, s8]) := by
  have hv : S.svOf false G = .val G := by cases G <;> rfl
  rcases h4 with rfl | rfl <;> simp [S.asg, C.callO, C.cons, C.nil, C.var, h, hv]
theorem g2 (k : Nat) {U G SG : Dl.D} {s0 s1 s3 s4 s5 s7 s8 : SV} (h : (I_law_lists k).sem [] [G] = some (SG, [])) :
    S.asg 7 false (C.call (I_law_lists k) (C.cons (C.var 6) C.nil)) [s0, s1, .val U, s3, s4, s5, .val G, s7, s8] = some (.nx, [s0, s1, .val U, s3, s4, s5, .val G, .val SG, s8]) := by
  have hv : S.svOf false SG = .val SG := by cases SG <;> rfl
  simp [S.asg, C.call, C.cons, C.nil, C.var, h, hv]
theorem g3 (k : Nat) {U SU G SG N : Dl.D} {s0 s1 s3 s4 s5 s8 : SV} (h1 : (I_passings k).sem [] [U, G] = some (N, [])) (h2 : (I_passings k).sem [] [G, U] = some (N, [])) (h3 : (I_law_lists k).sem [] [U] = some (SU, [])) (h4 : (I_passings k).sem [] [SU, SG] = some (N, [])) :
    S.asg 8 true (C.lst (C.cons (C.call (I_passings k) (C.cons (C.var 2) (C.cons (C.var 6) C.nil))) (C.cons (C.call (I_passings k) (C.cons (C.var 6) (C.cons (C.var 2) C.nil))) (C.cons (C.call (I_passings k) (C.cons (C.call (I_law_lists k) (C.cons (C.var 2) C.nil)) (C.cons (C.var 7) C.nil))) C.nil)))) [s0, s1, .val U, s3, s4, s5, .val G, .val SG, s8] = some (.nx, [s0, s1, .val U, s3, s4, s5, .val G, .val SG, .own [N, N, N]]) := by
  simp [runDef, S.seq, S.skip, S.brk, S.cont, S.ite, S.asg, S.asgG, S.par, S.svOf, S.setItem, S.append, S.drop, S.aug, S.ret, S.retN, S.for_, C.const, C.varV, C.var, C.un1, C.bin, C.cmp, C.chain, C.ofT, C.test, C.not, C.and, C.or, C.andV, C.orV, C.ifx, C.nil, C.cons, C.star, C.tup, C.lst, C.repL, C.subOwn, C.lenOwn, C.noPart, C.part, C.sl, C.call, C.callO, C.callS, C.callK, C.popOwn, C.walk, C.iter, C.range1, C.range2, C.seqOf, C.enum, C.zip2, C.tgName, C.tgNil, C.tgCons, C.tgTup, C.yes, chk, binOp, cmpOp, cmpI, List.getElem?_cons, h1, h2, h3, h4, line_small]
theorem g4 (k : Nat) {U G SG N X : Dl.D} {s0 s1 s3 s4 s5 : SV} (h1 : (I_next_forms k).sem [] [G] = some (X, [])) (h2 : (I_next_forms k).sem [] [SG] = some (X, [])) :
    S.asg 8 true (C.bin (binOp .Add) (C.var 8) (C.lst (C.cons (C.call (I_next_forms k) (C.cons (C.var 6) C.nil)) (C.cons (C.call (I_next_forms k) (C.cons (C.var 7) C.nil)) C.nil)))) [s0, s1, .val U, s3, s4, s5, .val G, .val SG, .own [N, N, N]] = some (.nx, [s0, s1, .val U, s3, s4, s5, .val G, .val SG, .own [N, N, N, X, X]]) := by
  have ha : opAdd (.list [N, N, N]) (.list [X, X]) = some (.list [N, N, N, X, X]) := rfl
  simp [runDef, S.seq, S.skip, S.brk, S.cont, S.ite, S.asg, S.asgG, S.par, S.svOf, S.setItem, S.append, S.drop, S.aug, S.ret, S.retN, S.for_, C.const, C.varV, C.var, C.un1, C.bin, C.cmp, C.chain, C.ofT, C.test, C.not, C.and, C.or, C.andV, C.orV, C.ifx, C.nil, C.cons, C.star, C.tup, C.lst, C.repL, C.subOwn, C.lenOwn, C.noPart, C.part, C.sl, C.call, C.callO, C.callS, C.callK, C.popOwn, C.walk, C.iter, C.range1, C.range2, C.seqOf, C.enum, C.zip2, C.tgName, C.tgNil, C.tgCons, C.tgTup, C.yes, chk, binOp, cmpOp, cmpI, List.getElem?_cons, h1, h2, ha, line_small]
theorem rep_3 (N : Dl.D) : rep 3 [N] = [N, N, N] := rfl
theorem rep_2 (N : Dl.D) : rep 2 [N] = [N, N] := rfl
theorem g5 (k : Nat) {U G SG N X : Dl.D} {T : TabD} {nk : NestedKey} {s0 s1 s4 s5 : SV} (hk : keyT G = some nk) (hT : tabGet T nk = some N) (hn : (I_law_next k).sem [] [G] = some (X, [])) (hs : (I_law_same k).sem [] [.list [N, N, N, X, X], .list [N, N, N, X, X]] = some (.bool true, [])) :
    S.ite (C.not (C.test (C.call (I_law_same k) (C.cons (C.var 8) (C.cons (C.bin (binOp .Add) (C.repL (C.cons (C.subTab 3 (C.var 6)) C.nil) (C.const (.int 3))) (C.repL (C.cons (C.call (I_law_next k) (C.cons (C.var 6) C.nil)) C.nil) (C.const (.int 2)))) C.nil))))) (S.ret (C.const (.bool false))) S.skip [s0, s1, .val U, .tab T, s4, s5, .val G, .val SG, .own [N, N, N, X, X]] = some (.nx, [s0, s1, .val U, .tab T, s4, s5, .val G, .val SG, .val (.list [N, N, N, X, X])]) := by
  have ha : opAdd (.list [N, N, N]) (.list [X, X]) = some (.list [N, N, N, X, X]) := rfl
  have i3 : in62 3 = true := by decide
  have i2 : in62 2 = true := by decide
  have r1 : C.repL (C.cons (C.subTab 3 (C.var 6)) C.nil) (C.const (.int 3)) [s0, s1, .val U, .tab T, s4, s5, .val G, .val SG, .val (.list [N, N, N, X, X])] = some (.list [N, N, N], [s0, s1, .val U, .tab T, s4, s5, .val G, .val SG, .val (.list [N, N, N, X, X])]) := by
    simp [C.repL, C.cons, C.nil, C.subTab, C.isTab, C.var, C.const, chk, hk, hT, i3, rep_3, line_small]
  have r2 : C.repL (C.cons (C.call (I_law_next k) (C.cons (C.var 6) C.nil)) C.nil) (C.const (.int 2)) [s0, s1, .val U, .tab T, s4, s5, .val G, .val SG, .val (.list [N, N, N, X, X])] = some (.list [X, X], [s0, s1, .val U, .tab T, s4, s5, .val G, .val SG, .val (.list [N, N, N, X, X])]) := by
    simp [C.repL, C.cons, C.nil, C.call, C.var, C.const, chk, hn, i2, rep_2, line_small]
  simp [S.ite, S.skip, C.not, C.test, C.call, C.cons, C.nil, C.var, C.bin, binOp, r1, r2, ha, hs, truth]
/-- what stands while one shape is looked at -/
def gSt (os : List Dl.D) (s1 : SV) (u : Form) (tab : List (Form × Nat)) (s4 s5 s6 s7 s8 : SV) : Rho := [.own os, s1, .val (encU u), .tab (tabU tab), s4, s5, s6, s7, s8]
theorem draw_b1 (k : Nat) {u : Form} (hu : okU u) {tab : List (Form × Nat)} (hw : ∀ g m, (g, m) ∈ tab ↔ Kin u g ∧ dF g u = m) {gs : List Form} (hgs : ∀ g ∈ gs, Kin u g) (hne : gs ≠ []) (hgl : gs.length ≤ 1000) {os : List Dl.D} {n : Int} (hB : Box os n) (hn : n + 1 < big) (s1 s4 s5 s6 s7 s8 : SV) (h4 : s4 = .val (.list (gs.map encU)) ∨ s4 = .own (gs.map encU)) :
    ∃ os' s6' s7' s8', Box os' (n + 1) ∧ b_law_right_1 (k + 8) (gSt os s1 u tab s4 s5 s6 s7 s8) = some (.nx, gSt os' s1 u tab (.val (.list (gs.map encU))) s5 s6' s7' s8') := by
  obtain ⟨r, os', hr, e1, hB'⟩ := of_ok (k + 6) hB (by omega) (xs := gs.map encU) (by simpa using hne) (by rw [List.length_map]; omega) (.inl rfl)
  obtain ⟨g, hg, rfl⟩ := List.mem_map.mp hr
  have hk := hgs g hg
  have hv := hu.kin hk
  have ls0 := lst_U (k + 4) hu
  have ls1 := lst_U (k + 4) hv
  have p1 := pass_ok (k + 2) hu hk
  have p2 := pass_ok (k + 2) hv hk.symm
  rw [dF_comm] at p2
  have p3 := pass_oks (k + 2) hu hk
  have n1 := next_ok (k + 7) hv (tup_U (k + 3) hv (.inr rfl))
  have n2 := next_ok (k + 7) hv (tup_U (k + 3) hv (.inl rfl))
  have n3 := lnext_ok (k + 7) hv
  have hT : tabGet (tabU tab) (nkU g) = some (nI (dF u g)) := get_some ((hw g (dF u g)).mpr ⟨hk, dF_comm g u⟩) fun m hm => by
    have := ((hw g m).mp hm).2
    rw [← this, dF_comm]
  have hs := same_got (k + 2) ((dF u g : Nat) : Int) (sortU_okU hv) (by have := sortU_len hv; omega)
  refine ⟨os', .val (encU g), .val (softU g), .val (.list [nI (dF u g), nI (dF u g), nI (dF u g), .list ((sortU g).map encU), .list ((sortU g).map encU)]), hB', ?_⟩
  unfold b_law_right_1 gSt
  exact seq_ok (g1 (k + 8) e1 h4) (seq_ok (g2 (k + 8) ls1) (seq_ok (g3 (k + 8) p1 p2 ls0 p3) (seq_ok (g4 (k + 8) n1 n2) (g5 (k + 8) (key_U g) hT n3 hs))))
/-! ### one shape -/
theorem t1 (k : Nat) {os os1 : List Dl.D} {F U : Dl.D} {s1 s2 s3 s4 s5 s6 s7 s8 : SV} (e1 : (I_law_flat k).sem os [.int 7, .int 3] = some (F, os1)) (e2 : (I_law_shape k).sem [] [F] = some (U, [])) :
    S.asg 2 false (C.call (I_law_shape k) (C.cons (C.callO (I_law_flat k) 0 (C.cons (C.const (.int 7)) (C.cons (C.const (.int 3)) C.nil))) C.nil)) [.own os, s1, s2, s3, s4, s5, s6, s7, s8] = some (.nx, [.own os1, s1, .val U, s3, s4, s5, s6, s7, s8]) := by
  have hv : S.svOf false U = .val U := by cases U <;> rfl
  simp [S.asg, C.call, C.callO, C.cons, C.nil, C.const, e1, e2, hv]
theorem t2 (k : Nat) {U : Dl.D} {n : Nat} {s0 s1 s3 s4 s5 s6 s7 s8 : SV} (e : (I_law_many k).sem [] [U] = some (.int n, [])) :
    S.ite (C.cmp (cmpOp .Gt) (C.call (I_law_many k) (C.cons (C.var 2) C.nil)) (C.const (.int 20))) S.cont S.skip [s0, s1, .val U, s3, s4, s5, s6, s7, s8] = some (if 20 < n then .ct else .nx, [s0, s1, .val U, s3, s4, s5, s6, s7, s8]) := by
  have hc : cmpI (fun i j => decide (j < i)) (.int (n : Int)) (.int 20) = some (decide (20 < n)) := by
    show some (decide ((20 : Int) < (n : Int))) = _
    congr 1
    rw [decide_eq_decide]
    omega
  by_cases h : 20 < n
  · rw [decide_eq_true h] at hc
    simp [S.ite, S.cont, S.skip, C.cmp, C.call, C.cons, C.nil, C.var, C.const, cmpOp, e, hc, h]
  · rw [decide_eq_false h] at hc
    simp [S.ite, S.cont, S.skip, C.cmp, C.call, C.cons, C.nil, C.var, C.const, cmpOp, e, hc, h]
theorem t3 (k : Nat) {U : Dl.D} {T : TabD} {s0 s1 s3 s4 s5 s6 s7 s8 : SV} (e : (I_law_steps k).sem [] [U] = some (.dict T, [])) :
    S.asgTab 3 (I_law_steps k) (C.cons (C.var 2) C.nil) [s0, s1, .val U, s3, s4, s5, s6, s7, s8] = some (.nx, [s0, s1, .val U, .tab T, s4, s5, s6, s7, s8]) := by
  simp [S.asgTab, C.cons, C.nil, C.var, e]
theorem t4 {U : Dl.D} {T : TabD} {L : List Dl.D} {s0 s1 s4 s5 s6 s7 s8 : SV} (hs : sortB1 (T.map (·.1)) = true) (hL : isort (T.map (·.1)) = L) :
    S.asg 4 true (C.sortTab 3) [s0, s1, .val U, .tab T, s4, s5, s6, s7, s8] = some (.nx, [s0, s1, .val U, .tab T, .own L, s5, s6, s7, s8]) := by
  subst hL
  simp [S.asg, C.sortTab, chk, hs, S.svOf]
theorem sort1_U {u : Form} (hu : okU u) {fs : List Form} (hd : fs.Nodup) (hk : ∀ g ∈ fs, Kin u g) (hl : fs.length ≤ 1000) : sortB1 (fs.map encU) = true := by
  unfold sortB1
  rw [Bool.or_eq_true]
  by_cases h : u = []
  · subst h
    refine .inr ?_
    have h1 := few_forms hd hk
    replace h1 : fs.length ≤ 1 := h1
    have h2 : ∀ g ∈ fs, g = [] := fun g hg => List.eq_nil_of_length_eq_zero ((hk g hg).len).symm
    cases fs with
    | nil => rfl
    | cons a r =>
      have : r = [] := List.eq_nil_of_length_eq_zero (by rw [List.length_cons] at h1; omega)
      subst this
      rw [h2 a List.mem_cons_self]
      decide +kernel
  · refine .inl (sortB_U (by unfold line; omega) (fun g hg e => ?_) fun g hg => hu.kin (hk g hg))
    subst e
    exact h (List.eq_nil_of_length_eq_zero (hk [] hg).len)
theorem right_b2 (k : Nat) {os : List Dl.D} {n : Int} (hB : Box os n) (hn : n + 5000 < big) (s1 s2 s3 s4 s5 s6 s7 s8 : SV) :
    ∃ (os' : List Dl.D) (s2' s3' s4' s5' s6' s7' s8' : SV), Box os' (n + 5000) ∧ (b_law_right_2 (k + 8) [.own os, s1, s2, s3, s4, s5, s6, s7, s8] = some (.nx, [.own os', s1, s2', s3', s4', s5', s6', s7', s8']) ∨ b_law_right_2 (k + 8) [.own os, s1, s2, s3, s4, s5, s6, s7, s8] = some (.ct, [.own os', s1, s2', s3', s4', s5', s6', s7', s8'])) := by
  obtain ⟨tags, fs, os1, e1, hF, htl, htp, hB1⟩ := flat_ok (k + 5) hB (by omega)
  replace e1 : (I_law_flat (k + 8)).sem os [.int 7, .int 3] = some (.tuple (fs.map encA), os1) := e1
  have hfl := hF.len
  obtain ⟨u, e2, hms, hml⟩ := shape_ok (k + 5) fs hF.ne (by omega) (fun a ha => htp _ (hF.sub a ha))
  replace e2 : (I_law_shape (k + 8)).sem [] [.tuple (fs.map encA)] = some (encU u, []) := e2
  have hu : okU u := ⟨fun m hm => (hms m hm).okM, by omega⟩
  have em := many_ok (k + 7) hu
  have a1 := t1 (k + 8) (s1 := s1) (s2 := s2) (s3 := s3) (s4 := s4) (s5 := s5) (s6 := s6) (s7 := s7) (s8 := s8) e1 e2
  have a2 := t2 (k + 8) (s0 := .own os1) (s1 := s1) (s3 := s3) (s4 := s4) (s5 := s5) (s6 := s6) (s7 := s7) (s8 := s8) em
  by_cases hm : 20 < manyF u
  · rw [if_pos hm] at a2
    refine ⟨os1, .val (encU u), s3, s4, s5, s6, s7, s8, hB1.mono (by omega), .inr ?_⟩
    unfold b_law_right_2
    refine seq_ok a1 ?_
    unfold S.seq
    rw [a2]
  · rw [if_neg hm] at a2
    obtain ⟨tab, hd, hw, es⟩ := steps_ok (k + 6) hu (by omega)
    have a3 := t3 (k + 8) (s0 := .own os1) (s1 := s1) (s3 := s3) (s4 := s4) (s5 := s5) (s6 := s6) (s7 := s7) (s8 := s8) es
    obtain ⟨gs, hp, hso⟩ := sort_map (enc := encU) (tab.map (·.1))
    have ek : (tabU tab).map (·.1) = (tab.map (·.1)).map encU := by
      unfold tabU
      rw [List.map_map, List.map_map]
      rfl
    have hkin : ∀ g ∈ tab.map (·.1), Kin u g := fun g hg => by
      obtain ⟨p, hp, rfl⟩ := List.mem_map.mp hg
      exact ((hw p.1 p.2).mp hp).1
    have hlen := few_forms hd hkin
    have hgl := hp.length_eq
    have a4 := t4 (U := encU u) (T := tabU tab) (L := gs.map encU) (s0 := .own os1) (s1 := s1) (s4 := s4) (s5 := s5) (s6 := s6) (s7 := s7) (s8 := s8) (by rw [ek]; exact sort1_U hu hd hkin (by omega)) (by rw [ek]; exact hso)
    have hne : gs ≠ [] := fun e => by
      have h0 : u ∈ tab.map (·.1) := List.mem_map.mpr ⟨(u, 0), (hw u 0).mpr ⟨Kin.refl u, dF_self u⟩, rfl⟩
      have := hp.mem_iff.mpr h0
      rw [e] at this
      simp at this
    have hgk : ∀ g ∈ gs, Kin u g := fun g hg => hkin g (hp.mem_iff.mp hg)
    obtain ⟨ρ', e, os', t4', t5, t6, t7, t8, rfl, hB', _⟩ := forL_inv (g := C.tgName 5) (b := b_law_right_1 (k + 8)) (ds := (List.range 4).map nI)
      (fun i ρ => ∃ os' t4 t5 t6 t7 t8, ρ = gSt os' s1 u tab t4 t5 t6 t7 t8 ∧ Box os' (n + 200 + (i : Int)) ∧ (t4 = .val (.list (gs.map encU)) ∨ t4 = .own (gs.map encU)))
      (fun i d hd ρ ⟨os2, t4, t5, t6, t7, t8, e, hB2, h4⟩ => by
        obtain ⟨hi, rfl⟩ := range_get hd
        subst e
        obtain ⟨os3, t6', t7', t8', hB3, e3⟩ := draw_b1 k hu hw hgk hne (by omega) hB2 (by omega) s1 t4 (.val (nI i)) t6 t7 t8 h4
        exact ⟨_, _, rfl, e3, os3, _, _, _, _, _, rfl, hB3.mono (by omega), .inl rfl⟩)
      (ρ := gSt os1 s1 u tab (.own (gs.map encU)) s5 s6 s7 s8) ⟨os1, _, _, _, _, _, rfl, hB1.mono (by omega), .inr rfl⟩
    rw [List.length_map, List.length_range] at hB'
    refine ⟨os', .val (encU u), .tab (tabU tab), t4', t5, t6, t7, t8, hB'.mono (by omega), .inl ?_⟩
    have hr : C.range1 (C.const (.int 4)) (gSt os1 s1 u tab (.own (gs.map encU)) s5 s6 s7 s8) = some ((List.range 4).map nI, gSt os1 s1 u tab (.own (gs.map encU)) s5 s6 s7 s8) := range1_ok (n := 4) rfl (by omega)
    unfold b_law_right_2
    exact seq_ok a1 (seq_ok a2 (seq_ok a3 (seq_ok a4 (for_ok hr e))))
theorem right_ok (k : Nat) {os : List Dl.D} {n : Int} (hB : Box os n) (hn : n + 20000 < big) : ∃ os', (I_law_right (k + 9)).sem os [] = some (.bool true, os') ∧ Box os' (n + 20000) := by
  rw [sem_law_right]
  obtain ⟨ρ', e, os', s1, s2, s3, s4, s5, s6, s7, s8, rfl, hB'⟩ := forL_inv2 (g := C.tgName 1) (b := b_law_right_2 (k + 8)) ((List.range 4).map nI)
    (fun i ρ => ∃ os' s1 s2 s3 s4 s5 s6 s7 s8, ρ = [.own os', s1, s2, s3, s4, s5, s6, s7, s8] ∧ Box os' (n + 5000 * (i : Int)))
    (fun i d hd ρ ⟨os1, t1, t2, t3, t4, t5, t6, t7, t8, e, hB1⟩ => by
      obtain ⟨hi, rfl⟩ := range_get hd
      subst e
      obtain ⟨os2, u2, u3, u4, u5, u6, u7, u8, hB2, e1⟩ := right_b2 k hB1 (by omega) (.val (nI i)) t2 t3 t4 t5 t6 t7 t8
      exact ⟨_, _, rfl, e1, os2, _, _, _, _, _, _, _, _, rfl, hB2.mono (by omega)⟩)
    (ρ := [.own os, .un, .un, .un, .un, .un, .un, .un, .un]) ⟨os, .un, .un, .un, .un, .un, .un, .un, .un, rfl, by simpa using hB⟩
  rw [List.length_map, List.length_range] at hB'
  refine ⟨os', ?_, hB'.mono (by omega)⟩
  have hr : C.range1 (C.const (.int 4)) [.own os, .un, .un, .un, .un, .un, .un, .un, .un] = some ((List.range 4).map nI, [.own os, .un, .un, .un, .un, .un, .un, .un, .un]) := range1_ok (n := 4) rfl (by omega)
  have hf := for_ok hr e
  unfold z_law_right runDef
  have hs := seq_ok hf (b := S.ret (C.const (.bool true))) rfl
  show (match decide ((0 : Nat) + 1 = 1), (S.seq (S.for_ (C.range1 (C.const (.int 4))) (C.tgName 1) (b_law_right_2 (k + 8))) (S.ret (C.const (.bool true)))) [.own os, .un, .un, .un, .un, .un, .un, .un, .un] with
    | true, some (.rt d, .own out :: _) => some (d, out)
    | true, some (.nx, .own out :: _) => some (.none, out)
    | _, _ => none) = _
  rw [hs]
  rfl
theorem hand_ok : (I_law_by_hand_right 39).sem [] [] = some (.bool true, []) := by
  have e := sem_law_by_hand_right 38
  rw [show (39 : Nat) = 38 + 1 from rfl, e]
  have h := hand_run
  cases hz : z_law_by_hand_right 38 (List.replicate 12 .un) with
  | none => rw [hz] at h; simp at h
  | some p =>
    rw [hz] at h
    obtain ⟨f, ρ⟩ := p
    simp at h
    subst h
    exact run_ok (ρ := ρ) rfl hz
theorem law_b1 {ms : List Int} (h3 : ms.length < 64) {i : Nat} (hi : i < ms.length) (s0 s3 : SV) : ∃ s3', b_law_1 39 [s0, .val (.list (ms.map .int)), .val (nI i), s3] = some (.nx, [s0, .val (.list (ms.map .int)), .val (nI i), s3']) := by
  obtain ⟨os, e1, hB⟩ := box_ok 38 ms i hi h3
  replace e1 : (I_law_box 39).sem [] [.list (ms.map .int), nI i] = some (.list os, []) := e1
  obtain ⟨os1, e2, hB1⟩ := right_ok 30 hB (by unfold big; omega)
  obtain ⟨os2, e3, hB2⟩ := right_ok 30 hB1 (by unfold big; omega)
  replace e2 : (I_law_right 39).sem os [] = some (.bool true, os1) := e2
  replace e3 : (I_law_right 39).sem os1 [] = some (.bool true, os2) := e3
  refine ⟨.own os2, ?_⟩
  generalize ms.map PyData.int = M at *
  generalize nI i = N at *
  simp [b_law_1, runDef, S.seq, S.skip, S.brk, S.cont, S.ite, S.asg, S.asgG, S.par, S.svOf, S.setItem, S.append, S.drop, S.aug, S.ret, S.retN, S.for_, C.const, C.varV, C.var, C.un1, C.bin, C.cmp, C.chain, C.ofT, C.test, C.not, C.and, C.or, C.andV, C.orV, C.ifx, C.nil, C.cons, C.star, C.tup, C.lst, C.repL, C.subOwn, C.lenOwn, C.noPart, C.part, C.sl, C.call, C.callO, C.callS, C.callK, C.popOwn, C.walk, C.iter, C.range1, C.range2, C.seqOf, C.enum, C.zip2, C.tgName, C.tgNil, C.tgCons, C.tgTup, C.yes, chk, binOp, cmpOp, cmpI, List.getElem?_cons, e1, e2, e3, truth]
theorem hand_st {I : FnI} {ρ : Rho} (h : I.sem [] [] = some (.bool true, [])) : S.ite (C.not (C.test (C.call I C.nil))) (S.ret (C.const (.bool false))) S.skip ρ = some (.nx, ρ) := by
  simp [runDef, S.seq, S.skip, S.brk, S.cont, S.ite, S.asg, S.asgG, S.par, S.svOf, S.setItem, S.append, S.drop, S.aug, S.ret, S.retN, S.for_, C.const, C.varV, C.var, C.un1, C.bin, C.cmp, C.chain, C.ofT, C.test, C.not, C.and, C.or, C.andV, C.orV, C.ifx, C.nil, C.cons, C.star, C.tup, C.lst, C.repL, C.subOwn, C.lenOwn, C.noPart, C.part, C.sl, C.call, C.callO, C.callS, C.callK, C.popOwn, C.walk, C.iter, C.range1, C.range2, C.seqOf, C.enum, C.zip2, C.tgName, C.tgNil, C.tgCons, C.tgTup, C.yes, chk, binOp, cmpOp, cmpI, List.getElem?_cons, h, truth]
theorem law_ok (ns : List Int) (hn : ns.length ≤ 63) : (I_law 40).sem [] [.list (ns.map .int)] = some (.bool true, []) := by
  rw [sem_law]
  obtain ⟨ms, e1, h1, h3⟩ := cells_ok 38 ns hn
  replace e1 : (I_law_cells 39).sem [] [.list (ns.map .int), .int 3] = some (.list (ms.map .int), []) := e1
  obtain ⟨ρ', e, s2, s3, rfl⟩ := forL_inv (g := C.tgName 2) (b := b_law_1 39) (ds := (List.range ms.length).map nI)
    (fun i ρ => ∃ s2 s3, ρ = [.val (.list (ns.map .int)), .val (.list (ms.map .int)), s2, s3])
    (fun i d hd ρ ⟨t2, t3, e⟩ => by
      obtain ⟨hi, rfl⟩ := range_get hd
      subst e
      obtain ⟨t3', e2⟩ := law_b1 (by omega) hi (.val (.list (ns.map .int))) t3
      exact ⟨_, _, rfl, e2, _, _, rfl⟩)
    (ρ := [.val (.list (ns.map .int)), .val (.list (ms.map .int)), .un, .un]) ⟨.un, .un, rfl⟩
  have hlen : opLen (.list (ms.map .int)) = some (.int (ms.length : Nat)) := by show some (PyData.int ((ms.map PyData.int).length : Nat)) = _; rw [List.length_map]
  have hr : C.range1 (C.lenOwn 1) [.val (.list (ns.map .int)), .val (.list (ms.map .int)), .un, .un] = some ((List.range ms.length).map nI, [.val (.list (ns.map .int)), .val (.list (ms.map .int)), .un, .un]) := range1_ok (by
    generalize ms.map PyData.int = M at *
    simp [runDef, S.seq, S.skip, S.brk, S.cont, S.ite, S.asg, S.asgG, S.par, S.svOf, S.setItem, S.append, S.drop, S.aug, S.ret, S.retN, S.for_, C.const, C.varV, C.var, C.un1, C.bin, C.cmp, C.chain, C.ofT, C.test, C.not, C.and, C.or, C.andV, C.orV, C.ifx, C.nil, C.cons, C.star, C.tup, C.lst, C.repL, C.subOwn, C.lenOwn, C.noPart, C.part, C.sl, C.call, C.callO, C.callS, C.callK, C.popOwn, C.walk, C.iter, C.range1, C.range2, C.seqOf, C.enum, C.zip2, C.tgName, C.tgNil, C.tgCons, C.tgTup, C.yes, chk, binOp, cmpOp, cmpI, List.getElem?_cons, hlen]) (by omega)
  have hf := for_ok hr e
  refine run_ok rfl (ρ := [.val (.list (ns.map .int)), .val (.list (ms.map .int)), s2, s3]) ?_
  unfold z_law
  refine seq_ok (ρ1 := [.val (.list (ns.map .int)), .un, .un, .un]) ?_ (seq_ok (ρ1 := [.val (.list (ns.map .int)), .val (.list (ms.map .int)), .un, .un]) ?_ (seq_ok hf rfl))
  · exact hand_st hand_ok
  · generalize ms.map PyData.int = M at *
    generalize ns.map PyData.int = NN at *
    simp [runDef, S.seq, S.skip, S.brk, S.cont, S.ite, S.asg, S.asgG, S.par, S.svOf, S.setItem, S.append, S.drop, S.aug, S.ret, S.retN, S.for_, C.const, C.varV, C.var, C.un1, C.bin, C.cmp, C.chain, C.ofT, C.test, C.not, C.and, C.or, C.andV, C.orV, C.ifx, C.nil, C.cons, C.star, C.tup, C.lst, C.repL, C.subOwn, C.lenOwn, C.noPart, C.part, C.sl, C.call, C.callO, C.callS, C.callK, C.popOwn, C.walk, C.iter, C.range1, C.range2, C.seqOf, C.enum, C.zip2, C.tgName, C.tgNil, C.tgCons, C.tgTup, C.yes, chk, binOp, cmpOp, cmpI, List.getElem?_cons, e1]
end K86

set_option maxRecDepth 100000
set_option maxHeartbeats 0
namespace K86
open PySem PySem.Spec L2 Dl
open PyProof.Rows hiding St
abbrev R : PySem.W.OpenRow := PySem.W.OpenLaw.row PySem.Challenge.rw_anyareas_k86_passings_between_forms
def errC (K : PySem.W.Frag) : Addr := He.ga K "OtherKind"
/-- what isinstance of an instance of the own error class asks -/
def ex (K : PySem.W.Frag) : Bool :=
  decide (PySem.W.findIn K (.ref (errC K)) "__getattribute__" = some (some (.builtin "BaseException.__getattribute__"))) &&
  (decide (PySem.W.findIn K (.ref (errC K)) "__getattr__" = some none) &&
  (PySem.W.hasDictIn K (errC K) &&
  (decide (PySem.W.findIn K (.ref (errC K)) "__class__" = some (some (.builtin "object.__class__"))) &&
  (decide (PySem.W.specialIn K (.builtin "object.__class__") "__get__" = some (some (.builtin "getset_descriptor.__get__"))) &&
  (decide (PySem.W.takesIn K (.builtin "object.__class__") = some true) &&
  (decide (PySem.W.mroIn K (errC K) (.type "object") = some true) &&
  decide (PySem.W.kitOne K (.ref (errC K)) (.type "ValueError") = some true)))))))
theorem xok {K : PySem.W.Frag} {h : Heap} {mg : Str → Option Value} (X : K.In h) (G : h.Ns mainGlobals mg) (c : He.SaysD fa fn K) (m : ex K = true) : XOk K mg (errC K) := by
  obtain ⟨e1, e2, e3, e4⟩ := He.exc_ok (c.fact 52 (f := .exc "OtherKind") rfl)
  unfold ex at m
  obtain ⟨m1, m⟩ := He.ba m
  obtain ⟨m2, m⟩ := He.ba m
  obtain ⟨m3, m⟩ := He.ba m
  obtain ⟨m4, m⟩ := He.ba m
  obtain ⟨m5, m⟩ := He.ba m
  obtain ⟨m6, m⟩ := He.ba m
  obtain ⟨m7, m8⟩ := He.ba m
  exact ⟨⟨He.glo_ok X G (c.fact 51 (f := .glo "OtherKind") rfl), e1, e2, e3, e4⟩, ⟨of_decide_eq_true m1, of_decide_eq_true m2, e3, m3, of_decide_eq_true m4, of_decide_eq_true m5, of_decide_eq_true m6, of_decide_eq_true m7⟩, He.exm_ok (c.fact 53 (f := .exm "OtherKind" "OtherKind" true) rfl), of_decide_eq_true m8⟩
abbrev hk : PySem.W.Hook := He.hookX 4 fa fn [] [] ex
def ob (s : PySem.W.SharedT) : He.AlX := He.obsX 4 fa fn [] [] ex (HandSHeadRun.getT s)
theorem ob_eq (s : PySem.W.SharedT) : ob s = hk.obs s.abs := He.obsX_eq (HandSHeadRun.getT_eq s)
def lawIx : Nat := 35
def names : List Str := "OtherKind" :: (fn.map fun d => d.name).dropLast
theorem run (w : World) : HandSHeadRun.RunEq R (PySem.W.view R.prog [lawIx]) hk ob 2000 names w := by
  intro os
  kernel_rfl
def lv : Nat := 41
theorem law_true (ns : List Int) (hn : ns.length ≤ 63) : ∃ I, GsO ov defs blt lv "law" = some I ∧ I.own = false ∧ I.ps = (["_law_script"] : List Str) ∧ I.star = false ∧ I.tab = false ∧ I.sem [] [.list (ns.map .int)] = some (.bool true, []) :=
  ⟨I_law 40, by kernel_rfl, rfl, rfl, rfl, rfl, law_ok ns hn⟩
theorem ints_dp {K : PySem.W.Frag} {H : Hp} : ∀ ns : List Int, DpAll K H (ns.map V.int) (ns.map PyData.int)
  | [] => .nil
  | n :: ns => .cons (.int n) (ints_dp ns)
theorem five (k : Nat) : ∀ x ∈ (["passings", "a_course", "is_course", "between", "middle"] : List Str), ∃ I, GsO ov defs blt k x = some I := by
  have one : ∀ x : Str, ov x = none → (findDf defs x).isSome = true → ∃ I, GsO ov defs blt k x = some I := fun x h1 h2 => by
    obtain ⟨d, hd⟩ := Option.isSome_iff_exists.mp h2
    cases k with
    | zero => exact ⟨_, show (findDf defs x).map _ = some _ by rw [hd]; rfl⟩
    | succ k =>
      refine ⟨infoOf (GsO ov defs blt k) blt d, ?_⟩
      show (match ov x with | some F => some (F (GsO ov defs blt k)) | none => (findDf defs x).map (infoOf (GsO ov defs blt k) blt)) = _
      rw [h1, hd]
      rfl
  intro x hx
  simp only [List.mem_cons, List.not_mem_nil, or_false] at hx
  rcases hx with rfl | rfl | rfl | rfl | rfl
  · exact one _ (by kernel_rfl) (by kernel_rfl)
  · exact one _ (by kernel_rfl) (by kernel_rfl)
  · exact one _ (by kernel_rfl) (by kernel_rfl)
  · exact one _ (by kernel_rfl) (by kernel_rfl)
  · exact one _ (by kernel_rfl) (by kernel_rfl)
theorem heard_in : d_law_heard ∈ defs := by
  unfold defs
  repeat (first | exact List.mem_cons_self | refine List.mem_cons_of_mem _ ?_)
theorem facts {P : Program} {w : World} {K : PySem.W.Frag} {h : Heap} {mg : Str → Option Value} {f : Addr} (X : K.In h) (G : h.Ns mainGlobals mg) (hfa : mg ("law" : Str) = some (.ref f)) (c : He.SaysD fa fn K) (m : ex K = true) :
    ∃ (fd : FuncData) (sp : Sp), (∀ (s : Shared) (v : Value), BindsTo s fd ⟨[v], []⟩ [("_law_script", v)]) ∧ (∀ (H : Hp) (a : Addr) (ns : List Int), ns.length ≤ 63 → Only H → SqL K H a (ns.map V.int) → sp [.ref a] H (fun v _ => v = .bl true) fun _ _ _ => False) ∧
      ∀ base : Heap, K.In base → base.Ns mainGlobals mg → FnOk P w K mg base CX0 lv f fd ["_law_script"] sp := by
  obtain ⟨fd, F⟩ := c.def_ 30 (d := h_law) rfl
  have e := hfa.symm.trans (He.glo_ok X G (c.fact 30 (f := .glo "law") rfl))
  cases e
  have b := FunD.bindsA (ps := ["_law_script"]) F fun _ _ _ _ _ _ us hl => match us, hl with | [_], _ => rfl
  obtain ⟨I, hI, h1, h2, h3, htb, _⟩ := law_true [] (Nat.zero_le _)
  refine ⟨fd, spF (TabO P w) K I, fun s v => b s [v] rfl, fun H a ns hn _ hS => ?_, fun base _ _ => ?_⟩
  · obtain ⟨I', hI', _, _, _, _, hs⟩ := law_true ns hn
    rw [hI] at hI'
    cases hI'
    unfold spF
    rw [h1]
    refine ⟨fun _ => False, [.list (ns.map .int)], .bool true, fun _ z => z.elim, .cons (.lst (sqL_sub (fun p o hp => hid_some.mpr ⟨fun z => z, hp⟩) hS) (ints_dp ns)) .nil, by rw [h2]; rfl, hs, fun v H' r => ?_⟩
    exact dp_bool (r.dp htb)
  · have xo := xok X G c m
    have LV := levels (P := P) (w := w) (base := base) (ov := ov) (defs_ok X G c) (blt_ok X G c) (fun x F hF k ih => by
      unfold ov at hF
      split at hF
      · rename_i hx
        cases hF
        have hx := of_decide_eq_true hx
        subst hx
        exact heard_level (defs_ok X G c d_law_heard heard_in) (blt_ok X G c) xo (ih k (Nat.le_refl k)) (five k)
      · cases hF) lv lv (Nat.le_refl _) "law" I hI
    obtain ⟨f', g1, g2, _, g3⟩ := LV.ex
    have e2 := hfa.symm.trans g1
    cases e2
    obtain ⟨fd', g4, _, _, oc, od, osl, g5⟩ := g3 h3
    obtain ⟨oc2, od2, osl2, g6⟩ := fun_at F
    have e3 := g5.symm.trans g6
    cases e3
    rw [h2] at g4
    exact g4
end K86
open PySem PySem.W PySem.Calls PyProof.Rows
theorem PySem.Challenge.cw_anyareas_k86_passings_between_forms_holds : PySem.Challenge.rw_anyareas_k86_passings_between_forms.Holds := by
  w_on; o_law
  refine HandSHeadRun.head_any (r := OpenLaw.row PySem.Challenge.rw_anyareas_k86_passings_between_forms) (q := view (OpenLaw.row PySem.Challenge.rw_anyareas_k86_passings_between_forms).prog [K86.lawIx]) (H := K86.hk) (ob := K86.ob) (M := 2000) (loose := K86.names) (d := HandSHeadRun.topDef (OpenLaw.row PySem.Challenge.rw_anyareas_k86_passings_between_forms).prog K86.lawIx) (kwd := []) K86.ob_eq
    (by kernel_rfl) (fun s => by kernel_rfl) K86.run (by kernel_rfl) (by kernel_rfl) (by kernel_rfl) (by rfl) (by first | assumption | decide +kernel) (by decide +kernel) ⟨rfl, rfl, rfl, rfl, rfl, by decide +kernel⟩ ?hw ?hc
  case hw => w_witness2
  case hc =>
    refine L2.walk_ofE (l := PySem.Challenge.rw_anyareas_k86_passings_between_forms) (n := 63) (k := K86.lv) (x := "_law_script") (CX := L2.CX0) rfl (by decide) (by kernel_rfl) ⟨rfl, by decide, by decide⟩ ?F (fun _ _ _ _ z => z)
    intro w mg fa h Y G hmg0
    obtain ⟨K, KX, c⟩ := Y
    have hmg : mg ("law" : PySem.Str) = some (.ref fa) := by
      have e : (HandSHeadRun.topDef (OpenLaw.row PySem.Challenge.rw_anyareas_k86_passings_between_forms).prog K86.lawIx).name = ("law" : PySem.Str) := by kernel_rfl
      rw [← e]
      exact hmg0
    obtain ⟨fd, sp, hb, hsp, hF⟩ := K86.facts (P := (PySem.Challenge.rw_anyareas_k86_passings_between_forms).prog) (w := w) KX G hmg c.t.d c.more
    exact ⟨K, fd, sp, KX, hb, hsp, hF⟩
