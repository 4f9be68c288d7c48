import PyProof.Rows.All
import KE.IntText
import KE.SortData
import KE.DataMinMax
import Wide.All
import OpenK.AllK
import Wide.FinOn
import HandS.ForMost
import HandS.ForExc
import HandS.TupAny
import HandS.TupLe
import HandS.IsInst
import HandS.Zip
import HandS.SortInts
import KE.LtData
import KE.KSortTupAny
import KE.LtSeq
import HandS.Text
import HandS.TupSets
import KE.SortCalls
import HandS.SetFor
import HandS.Strs
import KE.GoesEnum
import HandS.Comp
import HandS.ExcInit
import HandS.ExcOwn
import HandS.Dict
import KE.KExcIs
import HandS.ExcField
import HandS.HotCalls
import HandS.WordsExc
import HandS.Conv
import HandS.FStr
import KE.GoesEnumKw
import HandS.DictTup
import HandS.Keys
import KE.KDictSum
import KE.KDictPairs
import HandS.Ends
import KE.KEqDeep
import Lean
import PySem.Challenge.RW_meetsets_k66_sums_to_none
set_option Elab.async false
set_option linter.all false
set_option maxRecDepth 100000
/-! DLang: a small language of expressions and statements without positions, and its plain meaning over data (PyData). -/
namespace DL
open PySem PySem.W

abbrev D := PyData

/-- an outcome: a thing, an own error (its class, its fields), or nothing told -/
inductive M (α : Type) where
  | ok (a : α)
  | ex (c : Str) (fs : List (Str × D))
  | bad

namespace M
variable {α β : Type}
def bind (m : M α) (f : α → M β) : M β := match m with
  | .ok a => f a
  | .ex c fs => .ex c fs
  | .bad => .bad
def ofO (o : Option α) : M α := match o with
  | some a => .ok a
  | none => .bad
def guard (b : Bool) (m : M α) : M α := if b = true then m else .bad
@[simp] theorem bind_ok (a : α) (f : α → M β) : (M.ok a).bind f = f a := rfl
@[simp] theorem bind_ex (c : Str) (fs : List (Str × D)) (f : α → M β) : (M.ex c fs : M α).bind f = .ex c fs := rfl
@[simp] theorem bind_bad (f : α → M β) : (M.bad : M α).bind f = .bad := rfl
@[simp] theorem ofO_some (a : α) : M.ofO (some a) = .ok a := rfl
@[simp] theorem ofO_none : (M.ofO none : M α) = .bad := rfl
@[simp] theorem guard_true (m : M α) : M.guard true m = m := rfl
@[simp] theorem guard_false (m : M α) : M.guard false m = .bad := rfl
theorem bind_eq_ok {m : M α} {f : α → M β} {b : β} (h : m.bind f = .ok b) : ∃ a, m = .ok a ∧ f a = .ok b := by
  cases m with
  | ok a => exact ⟨a, rfl, h⟩
  | ex c fs => cases h
  | bad => cases h
end M

/-- binary operators; comparisons; types that isinstance asks; built-ins of one list of arguments -/
inductive Bop where
  | add | sub | mul | fdiv | md | pow | shl | shr | band
  deriving DecidableEq
inductive Cop where
  | eq | ne | lt | le | gt | ge | isN | notN | isT | notT | isF | notF | mem | nmem
  deriving DecidableEq
inductive Ty where
  | int | bool | str | list | tuple
  deriving DecidableEq
inductive Blt where
  | len | tuple | list | sorted | sset | lset | max | max2 | maxd | sum | all | abs | int | trng | lrng | index | sdict | str | fmt | cat | join | split
  deriving DecidableEq
/-- a target: a name's slot, or several -/
inductive Tg where
  | nm (i : Nat)
  | tup (is : List Nat)
  deriving DecidableEq

mutual
inductive E where
  | none
  | bl (b : Bool)
  | int (i : Int)
  | str (s : Str)
  | var (i : Nat)
  | bvar (i : Nat)
  | gint (x : Str) (i : Int)
  | gstr (x : Str) (s : Str)
  | din (k : E) (i : Nat)
  | dgt (i : Nat) (k : E)
  | tup (es : Es)
  | lst (es : Es)
  | bin (o : Bop) (a b : E)
  | neg (a : E)
  | cmp (o : Cop) (a b : E)
  | chain (o p : Cop) (a b c : E)
  | and (a b : E)
  | or (a b : E)
  | not (a : E)
  | ite (c a b : E)
  | isi (a : E) (t : Ty)
  | call (f : Str) (es : Es)
  | fcall (f : Str) (es : Es)
  | blt (b : Blt) (es : Es)
  | idx (a i : E)
  | slc (a : E) (lo hi : Eo)
  | rev (a : E)
  | lc (elt : E) (tg : Tg) (it : It) (c : Eo) (own : List (Str × Nat))
inductive Es where
  | nil
  | cons (e : E) (es : Es)
inductive Eo where
  | no
  | yes (e : E)
inductive It where
  | seq (e : E)
  | rng1 (a : E)
  | rng2 (a b : E)
  | rng3 (a b c : E)
  | enum (e : E)
  | enumK (k : Int) (e : E)
  | zip (a b : E)
end

/-! ### values of slots -/
inductive Sl where
  | un
  | sh (d : D)
  | own (d : D)
  | bor (d : D)
  | dic (kvs : List (Int × D))
abbrev Rho := List Sl
def getSh (r : Rho) (i : Nat) : M D := match r[i]? with
  | some (.sh d) => .ok d
  | _ => .bad
def getB (r : Rho) (i : Nat) : M D := match r[i]? with
  | some (.sh d) => .ok d
  | some (.own d) => .ok d
  | some (.bor d) => .ok d
  | _ => .bad

/-! a dict with ints as keys -/
def dGet (kvs : List (Int × D)) (n : Int) : Option D := (kvs.find? fun p => decide (p.1 = n)).map (·.2)
def dPut (kvs : List (Int × D)) (n : Int) (d : D) : List (Int × D) :=
  if (kvs.any fun p => decide (p.1 = n)) = true then kvs.map fun p => if p.1 = n then (p.1, d) else p else kvs ++ [(n, d)]
def unD : Sl → Sl
  | .dic _ => .un
  | s => s
def killD (r : Rho) : Rho := r.map unD
def dicOf (r : Rho) (i : Nat) : Option (List (Int × D)) := match r[i]? with
  | some (.dic kvs) => some kvs
  | _ => none
def dHas (kvs : List (Int × D)) : D → M D
  | .int n => .ok (.bool (dGet kvs n).isSome)
  | _ => .bad
def dAt (kvs : List (Int × D)) : D → M D
  | .int n => M.ofO (dGet kvs n)
  | _ => .bad
def dSet (kvs : List (Int × D)) (d : D) : D → M (List (Int × D))
  | .int n => .ok (dPut kvs n d)
  | _ => .bad
/-! ### operators -/
def line : Nat := 16777216
def mkTup (ds : List D) : M D := if ds.length ≤ line then .ok (.tuple ds) else .bad
def mkLst (ds : List D) : M D := if ds.length ≤ line then .ok (.list ds) else .bad
def small (i : Int) : Bool := Nat.ble i.natAbs 18446744073709551615
def binD : Bop → D → D → M D
  | .add, .int i, .int j => .ok (.int (i + j))
  | .add, .tuple xs, .tuple ys => mkTup (xs ++ ys)
  | .add, .list xs, .list ys => mkLst (xs ++ ys)
  | .add, .str x, .str y => if x.length + y.length ≤ line then .ok (.str (x ++ y)) else .bad
  | .sub, .int i, .int j => .ok (.int (i - j))
  | .mul, .int i, .int j => if small i = true ∨ small j = true then .ok (.int (i * j)) else .bad
  | .fdiv, .int i, .int j => if j ≠ 0 ∧ j.natAbs < 1073741824 then .ok (.int (i.fdiv j)) else .bad
  | .md, .int i, .int j => if j ≠ 0 then .ok (.int (i.fmod j)) else .bad
  | .pow, .int i, .int j => if 0 ≤ j ∧ j ≤ 1000000 ∧ i.natAbs < 2 ^ 64 then .ok (.int (i ^ j.toNat)) else .bad
  | .shl, .int i, .int j => if 0 ≤ j ∧ j ≤ 1000000 ∧ i.natAbs < 2 ^ 64 then .ok (.int (i * 2 ^ j.toNat)) else .bad
  | .shr, .int i, .int j => if 0 ≤ j then .ok (.int (i / 2 ^ j.toNat)) else .bad
  | .band, .int i, .int j => .ok (.int (Builtin.bitAnd i j))
  | _, _, _ => .bad
def okDep (a b : D) : Bool := decide (min a.depth b.depth ≤ 64)
def notNone : D → Bool
  | .none => false
  | _ => true
def okLt (a b : D) : Bool := alike a b && notNone a && decide (a.depth ≤ 64)
def isB : D → Option Bool
  | .bool b => some b
  | _ => none
def items : D → Option (List D)
  | .tuple xs => some xs
  | .list xs => some xs
  | _ => none
/-- a text in a text -/
def inS (a b : Str) : Bool := !(Builtin.Str.occurrences b a 0 b.length 1).isEmpty
def cmpD : Cop → D → D → M D
  | .eq, a, b => if okDep a b = true then .ok (.bool (PyData.eqv a b)) else .bad
  | .ne, a, b => if okDep a b = true then .ok (.bool (!PyData.eqv a b)) else .bad
  | .lt, .int i, .int j => .ok (.bool (decide (i < j)))
  | .le, .int i, .int j => .ok (.bool (decide (i ≤ j)))
  | .gt, .int i, .int j => .ok (.bool (decide (j < i)))
  | .ge, .int i, .int j => .ok (.bool (decide (j ≤ i)))
  | .lt, a, b => if okLt a b = true then .ok (.bool (dataLt a b)) else .bad
  | .le, a, b => if okLt a b = true then .ok (.bool (!dataLt b a)) else .bad
  | .gt, a, b => if okLt a b = true then .ok (.bool (dataLt b a)) else .bad
  | .ge, a, b => if okLt a b = true then .ok (.bool (!dataLt a b)) else .bad
  | .isN, a, .none => .ok (.bool (!notNone a))
  | .notN, a, .none => .ok (.bool (notNone a))
  | .isT, .bool a, .bool true => .ok (.bool a)
  | .notT, .bool a, .bool true => .ok (.bool (!a))
  | .isF, .bool a, .bool false => .ok (.bool (!a))
  | .notF, .bool a, .bool false => .ok (.bool a)
  | .mem, a, .tuple xs => if okDep (.tuple xs) a = true then .ok (.bool (xs.any fun y => PyData.eqv y a)) else .bad
  | .mem, a, .list xs => if okDep (.list xs) a = true then .ok (.bool (xs.any fun y => PyData.eqv y a)) else .bad
  | .nmem, a, .tuple xs => if okDep (.tuple xs) a = true then .ok (.bool (!xs.any fun y => PyData.eqv y a)) else .bad
  | .nmem, a, .list xs => if okDep (.list xs) a = true then .ok (.bool (!xs.any fun y => PyData.eqv y a)) else .bad
  | .mem, .str a, .str b => .ok (.bool (inS a b))
  | .nmem, .str a, .str b => .ok (.bool (!inS a b))
  | _, _, _ => .bad
def tyD : Ty → D → Bool
  | .int, .int _ => true
  | .int, .bool _ => true
  | .bool, .bool _ => true
  | .str, .str _ => true
  | .list, .list _ => true
  | .tuple, .tuple _ => true
  | _, _ => false
def lenD : D → M D
  | .tuple xs => .ok (.int xs.length)
  | .list xs => .ok (.int xs.length)
  | .str x => if x.length ≤ line then .ok (.int x.length) else .bad
  | _ => .bad
/-- a place from the front or the end -/
def ixN (n : Nat) (i : Int) : Option Nat := if 0 ≤ i then (if i < n then some i.toNat else none) else if -(n : Int) ≤ i then some (i + n).toNat else none
def idxD : D → D → M D
  | .tuple xs, .int i => M.ofO ((ixN xs.length i).bind fun j => xs[j]?)
  | .list xs, .int i => M.ofO ((ixN xs.length i).bind fun j => xs[j]?)
  | _, _ => .bad
/-- a slice's end -/
def sIx (n d : Nat) : Option Int → Nat
  | none => d
  | some v => if v < 0 then (v + (n : Int)).toNat else min v.toNat n
def cut (xs : List D) (lo hi : Option Int) : List D := (xs.drop (sIx xs.length 0 lo)).take (sIx xs.length xs.length hi - sIx xs.length 0 lo)
def slcD : D → Option Int → Option Int → M D
  | .tuple xs, lo, hi => .ok (.tuple (cut xs lo hi))
  | .list xs, lo, hi => .ok (.list (cut xs lo hi))
  | _, _, _ => .bad
def revD : D → M D
  | .tuple xs => .ok (.tuple xs.reverse)
  | .list xs => .ok (.list xs.reverse)
  | _ => .bad
/-- every two are alike, none is None -/
def okSort (xs : List D) : Bool := xs.all fun a => notNone a && decide (a.depth ≤ 64) && xs.all fun b => alike a b
def leD (a b : D) : Bool := !dataLt b a
def sortL (xs : List D) : M (List D) := if okSort xs = true then .ok (xs.mergeSort leD) else .bad
def dedup : List D → List D
  | [] => []
  | x :: xs => x :: (dedup xs).filter fun y => !PyData.eqv y x
def boolsD : List D → Option (List Bool)
  | [] => some []
  | .bool i :: xs => (boolsD xs).map (i :: ·)
  | _ :: _ => none
def intsD : List D → Option (List Int)
  | [] => some []
  | .int i :: xs => (intsD xs).map (i :: ·)
  | _ :: _ => none
/-! tuples of ints: their order, sorting, each once -/
def tD (k : List Int) : D := .tuple (k.map .int)
def ltI : List Int → List Int → Bool
  | [], [] => false
  | [], _ :: _ => true
  | _ :: _, [] => false
  | x :: xs, y :: ys => if x = y then ltI xs ys else decide (x < y)
def leI (a b : List Int) : Bool := !ltI b a
def sortI (ks : List (List Int)) : List (List Int) := ks.mergeSort leI
def dd : List (List Int) → List (List Int)
  | [] => []
  | x :: xs => if x ∈ xs then dd xs else x :: dd xs
/-- ints, rising, each once -/
def insZ (x : Int) : List Int → List Int
  | [] => [x]
  | y :: l => if x < y then x :: y :: l else if x = y then y :: l else y :: insZ x l
def sdd : List Int → List Int
  | [] => []
  | x :: l => insZ x (sdd l)
def tupsOf : List D → Option (List (List Int))
  | [] => some []
  | .tuple xs :: r => (intsD xs).bind fun k => (tupsOf r).map (k :: ·)
  | _ :: _ => none
def keysOf (d : D) : Option (List (List Int)) := (items d).bind tupsOf
def rng (lo : Int) : Nat → List D
  | 0 => []
  | n + 1 => .int lo :: rng (lo + 1) n
/-- the keys of pairs, each a tuple of ints -/
def pairK : List D → Option (List (List Int))
  | [] => some []
  | .tuple [.tuple xs, _] :: r => (intsD xs).bind fun k => (pairK r).map (k :: ·)
  | _ :: _ => none
def strsD : List D → Option (List Str)
  | [] => some []
  | .str s :: xs => (strsD xs).map (s :: ·)
  | _ :: _ => none
def catS (acc : Str) : List Str → Str
  | [] => acc
  | y :: ys => catS (acc ++ y) ys
def strI (i : Int) : M D := if i.natAbs.log2 < 1920 ∧ PyData.strOk (Str.ofString (toString i)) = true then .ok (.str (Str.ofString (toString i))) else .bad
def bltD : Blt → List D → M D
  | .len, [d] => lenD d
  | .tuple, [d] => (M.ofO (items d)).bind fun xs => .ok (.tuple xs)
  | .list, [d] => (M.ofO (items d)).bind fun xs => .ok (.list xs)
  | .sorted, [.list xs] => (sortL xs).bind fun ys => .ok (.list ys)
  | .sset, [d] => match keysOf d with
    | some ks => if (dd ks).length < 63 then .ok (.list ((sortI (dd ks)).map tD)) else .bad
    | none => match (items d).bind intsD with
      | some ns => if ns.length < 63 then .ok (.list ((sdd ns).map .int)) else .bad
      | none => .bad
  | .sdict, [.list xs] => (M.ofO (pairK xs)).bind fun ks => .ok (.list ((sortI (dd ks)).map tD))
  | .lset, [.tuple xs] => (M.ofO (intsD xs)).bind fun ns => if ns.Nodup ∧ ns.length < 1000 then .ok (.int ns.length) else .bad
  | .max, [.list xs] => (M.ofO (intsD xs)).bind fun ns => match ns with
      | [] => .bad
      | n :: r => .ok (.int (r.foldl max n))
  | .maxd, [.list xs, e] => (M.ofO (intsD xs)).bind fun ns => match ns with
      | [] => .ok e
      | n :: r => .ok (.int (r.foldl max n))
  | .max2, [.int i, .int j] => .ok (.int (if j > i then j else i))
  | .sum, [.list xs] => (M.ofO (intsD xs)).bind fun ns => .ok (.int ns.sum)
  | .all, [.list xs] => (M.ofO (boolsD xs)).bind fun bs => .ok (.bool (bs.all id))
  | .trng, [.int n] => if 0 ≤ n ∧ n ≤ 16777216 then .ok (.tuple (rng 0 n.toNat)) else .bad
  | .lrng, [.int n] => if 0 ≤ n ∧ n ≤ 16777216 then .ok (.list (rng 0 n.toNat)) else .bad
  | .index, [.tuple xs, .int i] => (M.ofO (intsD xs)).bind fun ns => if i ∈ ns then .ok (.int (ns.idxOf i : Nat)) else .bad
  | .index, [.list xs, .int i] => (M.ofO (intsD xs)).bind fun ns => if i ∈ ns then .ok (.int (ns.idxOf i : Nat)) else .bad
  | .abs, [.int i] => .ok (.int (if i < 0 then -i else i))
  | .int, [.int i] => .ok (.int i)
  | .int, [.bool b] => .ok (.int (if b then 1 else 0))
  | .int, [.str s] => if s.length ≤ 640 then (M.ofO (PySem.intText? s)).bind fun n => .ok (.int n) else .bad
  | .str, [.int i] => strI i
  | .fmt, [.int i] => strI i
  | .fmt, [.str s] => if s.length ≤ line then .ok (.str s) else .bad
  | .cat, ds => (M.ofO (strsD ds)).bind fun ys => if (catS Str.empty ys).length ≤ line ∧ PyData.strOk (catS Str.empty ys) = true then .ok (.str (catS Str.empty ys)) else .bad
  | .join, [.str a, d] => (M.ofO ((items d).bind strsD)).bind fun ys => if (ys.map (·.length)).sum + ys.length * a.length ≤ 16777216 ∧ PyData.strOk (Txt.join a ys) = true then .ok (.str (Txt.join a ys)) else .bad
  | .split, [.str a, .str b] => if b.length ≠ 0 ∧ a.length + 2 ≤ line ∧ ((Txt.split a b).all PyData.strOk) = true then .ok (.list ((Txt.split a b).map .str)) else .bad
  | _, _ => .bad
def inR (i : Int) : Bool := Nat.ble i.natAbs 4611686018427387903
def enumD (k : Int) : List D → List D
  | [] => []
  | x :: xs => .tuple [.int k, x] :: enumD (k + 1) xs
def zipD : List D → List D → List D
  | x :: xs, y :: ys => .tuple [x, y] :: zipD xs ys
  | _, _ => []
/-- a target takes a value -/
def setAll : List Nat → List D → Rho → Option Rho
  | [], [], r => some r
  | i :: is, d :: ds, r => setAll is ds (r.set i (.sh d))
  | _, _, _ => none
def bindT : Tg → D → Rho → Option Rho
  | .nm i, d, r => some (r.set i (.sh d))
  | .tup is, .tuple ds, r => setAll is ds r
  | .tup _, _, _ => none
def wipe (r : Rho) : List Nat → Rho
  | [] => r
  | v :: vs => (wipe r vs).set v .un
/-! no list, no dict within -/
mutual
def noL : D → Bool
  | .tuple xs => noLs xs
  | .list _ => false
  | .dict _ => false
  | _ => true
def noLs : List D → Bool
  | [] => true
  | x :: xs => noL x && noLs xs
end
def flatD : D → Bool
  | .none => true
  | .bool _ => true
  | .int _ => true
  | .str _ => true
  | _ => false
/-- what a call without lists tells: a list of flat things is new -/
def frD : D → M D
  | .list xs => if (xs.all flatD) = true then .ok (.list xs) else .bad
  | .dict _ => .bad
  | d => .ok d
def isLs : D → Bool
  | .list xs => decide (xs.length < line)
  | _ => false
/-- what a comprehension makes of its items -/
def lcRun (tg : Tg) (elt : Rho → M D) (c : Rho → M Bool) (r : Rho) : List D → M (List D)
  | [] => .ok []
  | x :: xs => (M.ofO (bindT tg x r)).bind fun r1 => (c r1).bind fun b =>
      if b = true then (elt r1).bind fun y => (lcRun tg elt c r xs).bind fun ys => .ok (y :: ys) else lcRun tg elt c r xs

/-- an error in a comprehension is not told -/
def noX {α : Type} : M α → M α
  | .ok a => .ok a
  | _ => .bad
abbrev Gm := Str → List D → M D
def evB (m : M D) : M Bool := m.bind fun d => M.ofO (isB d)
mutual
def ev (G : Gm) : E → Rho → M D
  | .none, _ => .ok .none
  | .bl b, _ => .ok (.bool b)
  | .int i, _ => .ok (.int i)
  | .str s, _ => .ok (.str s)
  | .var i, r => getSh r i
  | .bvar i, r => getB r i
  | .gint _ i, _ => .ok (.int i)
  | .gstr _ s, _ => .ok (.str s)
  | .din k i, r => (ev G k r).bind fun x => (M.ofO (dicOf r i)).bind fun kvs => dHas kvs x
  | .dgt i k, r => (M.ofO (dicOf r i)).bind fun kvs => (ev G k r).bind fun x => dAt kvs x
  | .tup es, r => (evs G es r).bind fun ds => mkTup ds
  | .lst es, r => (evs G es r).bind fun ds => mkLst ds
  | .bin o a b, r => (ev G a r).bind fun x => (ev G b r).bind fun y => binD o x y
  | .neg a, r => (ev G a r).bind fun x => match x with
      | .int i => .ok (.int (-i))
      | _ => .bad
  | .cmp o a b, r => (ev G a r).bind fun x => (ev G b r).bind fun y => cmpD o x y
  | .chain o p a b c, r => (ev G a r).bind fun x => (ev G b r).bind fun y => (evB (cmpD o x y)).bind fun k =>
      if k = true then (ev G c r).bind fun z => cmpD p y z else .ok (.bool false)
  | .and a b, r => (evB (ev G a r)).bind fun k => if k = true then ev G b r else .ok (.bool false)
  | .or a b, r => (evB (ev G a r)).bind fun k => if k = true then .ok (.bool true) else ev G b r
  | .not a, r => (evB (ev G a r)).bind fun k => .ok (.bool (!k))
  | .ite c a b, r => (evB (ev G c r)).bind fun k => if k = true then ev G a r else ev G b r
  | .isi a t, r => (ev G a r).bind fun x => .ok (.bool (tyD t x))
  | .call f es, r => (evs G es r).bind fun ds => G f ds
  | .fcall f es, r => (evs G es r).bind fun ds => if noLs ds = true then (G f ds).bind frD else .bad
  | .blt b es, r => (evs G es r).bind fun ds => bltD b ds
  | .idx a i, r => (ev G a r).bind fun x => (ev G i r).bind fun y => idxD x y
  | .slc a lo hi, r => (ev G a r).bind fun x => (evo G lo r).bind fun l => (evo G hi r).bind fun h => slcD x l h
  | .rev a, r => (ev G a r).bind revD
  | .lc elt tg it c own, r => (evi G it r).bind fun xs =>
      (noX (lcRun tg (ev G elt) (evc G c) (wipe r (own.map (·.2))) xs)).bind fun ys => mkLst ys
def evs (G : Gm) : Es → Rho → M (List D)
  | .nil, _ => .ok []
  | .cons e es, r => (ev G e r).bind fun d => (evs G es r).bind fun ds => .ok (d :: ds)
def evo (G : Gm) : Eo → Rho → M (Option Int)
  | .no, _ => .ok none
  | .yes e, r => (ev G e r).bind fun d => match d with
      | .int i => .ok (some i)
      | _ => .bad
def evc (G : Gm) : Eo → Rho → M Bool
  | .no, _ => .ok true
  | .yes e, r => evB (ev G e r)
def evi (G : Gm) : It → Rho → M (List D)
  | .seq e, r => (ev G e r).bind fun d => M.ofO (items d)
  | .rng1 a, r => (ev G a r).bind fun x => match x with
      | .int n => if inR n = true then .ok (rng 0 n.toNat) else .bad
      | _ => .bad
  | .rng2 a b, r => (ev G a r).bind fun x => (ev G b r).bind fun y => match x, y with
      | .int lo, .int hi => if inR lo = true ∧ inR hi = true then .ok (rng lo (hi - lo).toNat) else .bad
      | _, _ => .bad
  | .rng3 _ _ _, _ => .bad
  | .enum e, r => (ev G e r).bind fun d => (M.ofO (items d)).bind fun xs => .ok (enumD 0 xs)
  | .enumK k e, r => (ev G e r).bind fun d => match d with
      | .list xs => if inR k = true then .ok (enumD k xs) else .bad
      | _ => .bad
  | .zip a b, r => (ev G a r).bind fun x => (ev G b r).bind fun y => match x, y with
      | .list xs, .list ys => .ok (zipD xs ys)
      | .tuple xs, .tuple ys => .ok (zipD xs ys)
      | _, _ => .bad
end
def ext (G : Gm) (f : Str) (m : List D → M D) : Gm := fun g ds => if g = f then m ds else G g ds

/-! ### what an except suite tells of a caught error: its kind, its fields -/
inductive X1 where
  | kd
  | fld (f : Str)
  | int (i : Int)
  deriving DecidableEq
inductive XH where
  | one (x : X1)
  | lst (xs : List X1)
  | tup (xs : List X1)
  | eq (i : Int)
  | ifk (i : Int) (h g : XH)
/-- classes: their number, their fields -/
abbrev KTb := List (Str × Int × List Str)
def x1M (k : Int) (ns : List Str) (fs : List (Str × D)) : X1 → M D
  | .kd => .ok (.int k)
  | .fld f => if f ∈ ns then M.ofO (fs.lookup f) else .bad
  | .int i => .ok (.int i)
def x1sM (k : Int) (ns : List Str) (fs : List (Str × D)) : List X1 → M (List D)
  | [] => .ok []
  | x :: xs => (x1M k ns fs x).bind fun d => (x1sM k ns fs xs).bind fun ds => .ok (d :: ds)
def xhM (k : Int) (ns : List Str) (fs : List (Str × D)) : XH → M D
  | .one x => x1M k ns fs x
  | .lst xs => (x1sM k ns fs xs).bind mkLst
  | .tup xs => (x1sM k ns fs xs).bind mkTup
  | .eq i => .ok (.bool (decide (k = i)))
  | .ifk i h g => if k = i then xhM k ns fs h else xhM k ns fs g
/-! ### statements -/
mutual
inductive S where
  | bad
  | tri (t : KTb) (body : Ss) (h : XH)
  | ret (e : E)
  | retN
  | retOwn (i : Nat)
  | asg (i : Nat) (o : Bool) (e : E)
  | unp (is : List Nat) (e : E)
  | par (i j : Nat) (a b : E)
  | app (i : Nat) (e : E)
  | ins (i : Nat) (k e : E)
  | dnew (i : Nat)
  | dput (i : Nat) (k e : E)
  | expr (e : E)
  | ifs (c : E) (a b : Ss)
  | ifT (i : Nat) (c : E) (a b : Ss)
  | isle (i : Nat) (f : Str) (es : Es) (g : Str) (e : E)
  | for_ (tg : Tg) (it : It) (body : Ss)
  | whl (c : E) (body : Ss)
  | raise (c : Str) (ns : List Str) (es : Es)
  | brk
  | cont
  | pass
  | frz (i : Nat)
inductive Ss where
  | nil
  | cons (s : S) (ss : Ss)
end
inductive Fl where
  | next (r : Rho)
  | ret (d : D)
  | brk (r : Rho)
  | cont (r : Rho)
/-- a fresh value in a slot -/
def mkOwn : D → Sl
  | .list xs => .own (.list xs)
  | .dict k => .own (.dict k)
  | d => .sh d
/-- does an expression's list (where it is one) stand alone: 0 shared, 1 fresh, 2 a borrowed name's -/
def fl : E → Nat
  | .bvar _ => 2
  | .lst _ => 1
  | .bin _ _ _ => 1
  | .slc _ _ _ => 1
  | .rev _ => 1
  | .lc _ _ _ _ _ => 1
  | .blt _ _ => 1
  | .fcall _ _ => 1
  | _ => 0
def put (o : Bool) (e : E) (d : D) : Sl := if o = true ∧ fl e = 1 then mkOwn d else .sh d
def frzS : Sl → Sl
  | .own (.list xs) => .sh (.list xs)
  | s => s
/-- a loop over items -/
def forRun (tg : Tg) (body : Rho → M Fl) : List D → Rho → M Fl
  | [], r => .ok (.next r)
  | x :: xs, r => (M.ofO (bindT tg x r)).bind fun r1 => (body r1).bind fun f => match f with
      | .next r2 => forRun tg body xs r2
      | .cont r2 => forRun tg body xs r2
      | .brk r2 => .ok (.next r2)
      | .ret d => .ok (.ret d)
def whlRun (c : Rho → M Bool) (body : Rho → M Fl) : Nat → Rho → M Fl
  | 0, _ => .bad
  | n + 1, r => (c r).bind fun b => if b = true then (body r).bind fun f => match f with
      | .next r2 => whlRun c body n r2
      | .cont r2 => whlRun c body n r2
      | .brk r2 => .ok (.next r2)
      | .ret d => .ok (.ret d) else .ok (.next r)
def whlFuel : Nat := 1000000
def onNext (m : M Fl) (f : Rho → M Fl) : M Fl := m.bind fun x => match x with
  | .next r => f r
  | .ret d => .ok (.ret d)
  | .brk r => .ok (.brk r)
  | .cont r => .ok (.cont r)
/-- a caught error -/
def triM (t : KTb) (h : XH) : M Fl → M Fl
  | .ex c fs => match t.lookup c with
    | some (k, ns) => (xhM k ns fs h).bind fun d => .ok (.ret d)
    | none => .bad
  | m => m
mutual
def exec (G : Gm) : S → Rho → M Fl
  | .bad, _ => .bad
  | .tri t body h, r => triM t h (execs G body r)
  | .ret e, r => (ev G e r).bind fun d => .ok (.ret d)
  | .retN, _ => .ok (.ret .none)
  | .retOwn i, r => match r[i]? with
      | some (.own d) => .ok (.ret d)
      | _ => .bad
  | .asg i o e, r => (ev G e r).bind fun d => .ok (.next (r.set i (put o e d)))
  | .unp is e, r => (ev G e r).bind fun d => (M.ofO (bindT (.tup is) d r)).bind fun r1 => .ok (.next r1)
  | .par i j a b, r => (ev G a r).bind fun x => (ev G b r).bind fun y => .ok (.next ((r.set i (.sh x)).set j (.sh y)))
  | .app i e, r => match r[i]? with
      | some (.own (.list xs)) => (ev G e r).bind fun d => if xs.length < line then .ok (.next (r.set i (.own (.list (xs ++ [d]))))) else .bad
      | _ => .bad
  | .ins i k e, r => match r[i]? with
      | some (.own (.list xs)) => (ev G k r).bind fun j => (ev G e r).bind fun d => match j with
        | .int j => if xs.length < line ∧ 0 ≤ j ∧ j < 1000000 then .ok (.next (r.set i (.own (.list (xs.take j.toNat ++ [d] ++ xs.drop j.toNat))))) else .bad
        | _ => .bad
      | _ => .bad
  | .dnew i, r => .ok (.next ((killD r).set i (.dic [])))
  | .dput i k e, r => (ev G e r).bind fun d => (M.ofO (dicOf r i)).bind fun kvs => (ev G k r).bind fun x => (dSet kvs d x).bind fun l =>
      if kvs.length < line then .ok (.next ((killD r).set i (.dic l))) else .bad
  | .expr e, r => (ev G e r).bind fun _ => .ok (.next r)
  | .ifs c a b, r => (evB (ev G c r)).bind fun k => if k = true then execs G a r else execs G b r
  | .ifT i c a b, r => match r[i]? with
      | some s => (evB (ev G c (r.set i (frzS s)))).bind fun k => if k = true then execs G a r else execs G b r
      | none => .bad
  | .isle i f es g e, r => (evs G es r).bind fun ds => if noLs ds = true ∧ i < r.length then (G f ds).bind fun d => match d with
      | .list xs => if (xs.all isLs) = true ∧ xs.length + 1 < line then (ev G e (r.set i .un)).bind fun u => (evB (G g [.list xs, u])).bind fun k => if k = true then .ok (.next (r.set i .un)) else .ok (.ret (.bool false)) else .bad
      | _ => .bad
    else .bad
  | .for_ tg it body, r => (evi G it r).bind fun xs => forRun tg (execs G body) xs r
  | .whl c body, r => whlRun (fun q => evB (ev G c q)) (execs G body) whlFuel r
  | .raise c ns es, r => (evs G es r).bind fun ds => if ds.length = ns.length then .ex c (ns.zip ds).reverse else .bad
  | .brk, r => .ok (.brk r)
  | .cont, r => .ok (.cont r)
  | .pass, r => .ok (.next r)
  | .frz i, r => match r[i]? with
      | some s => .ok (.next (r.set i (frzS s)))
      | none => .bad
def execs (G : Gm) : Ss → Rho → M Fl
  | .nil, r => .ok (.next r)
  | .cons s ss, r => onNext (exec G s r) fun r2 => execs G ss r2
end
/-- a parameter: shared, or borrowed (a list or dict that is only looked at) -/
inductive Pm where
  | sh
  | bor
  deriving DecidableEq
def parS : Pm → D → Sl
  | .sh, d => .sh d
  | .bor, d => .bor d
/-- a def: its parameters, how many names it has, its body -/
structure Fn where
  ps : List Pm
  n : Nat
  fresh : Bool
  body : Ss
def start (ps : List Pm) (n : Nat) (ds : List D) : Rho := (ps.zipWith parS ds) ++ List.replicate (n - ps.length) .un
def run (G : Gm) (f : Fn) (ds : List D) : M D := if ds.length = f.ps.length then
    (execs G f.body (start f.ps f.n ds)).bind fun x => match x with
      | .ret d => .ok d
      | .next _ => .ok .none
      | _ => .bad
  else .bad
end DL

/-! DRel: how a value and the abstract heap stand for data. -/
namespace DL
open PySem PySem.Spec PyProof.Rows L2

abbrev Fg := PySem.W.Frag
def Sub (F H : Hp) : Prop := ∀ a o, F a = some o → H a = some o
theorem Sub.refl (F : Hp) : Sub F F := fun _ _ h => h
theorem Sub.trans {F G H : Hp} (a : Sub F G) (b : Sub G H) : Sub F H := fun x o h => b x o (a x o h)
theorem sub_upd {H : Hp} {p : Addr} {o : HO} (h : H p = none) : Sub H (upd H p o) := fun a u e => by
  rw [upd_ne (ne_of_none e h)]; exact e
theorem sub_upd2 {F H : Hp} {p : Addr} {o : HO} (s : Sub F H) (h : H p = none) : Sub (upd F p o) (upd H p o) := fun a u e => by
  by_cases q : a = p
  · subst q; rw [upd_same] at e ⊢; exact e
  · rw [upd_ne q] at e ⊢; exact s a u e
theorem Sub.none {F H : Hp} {a : Addr} (s : Sub F H) (h : H a = none) : F a = none := by
  cases e : F a with
  | none => rfl
  | some o => rw [s a o e] at h; cases h

theorem seqL_mono {K : Fg} {F H : Hp} {a : Addr} {xs : List V} (s : Sub F H) (h : SqL K F a xs) : SqL K H a xs := by
  rcases h with (h | ⟨o, h⟩) | h
  · exact .inl (.inl (s _ _ h))
  · exact .inl (.inr ⟨o, s _ _ h⟩)
  · exact .inr h
theorem seqT_mono {K : Fg} {F H : Hp} {a : Addr} {xs : List V} (s : Sub F H) (h : SqT K F a xs) : SqT K H a xs := by
  rcases h with (h | ⟨o, h⟩) | h
  · exact .inl (.inl (s _ _ h))
  · exact .inl (.inr ⟨o, s _ _ h⟩)
  · exact .inr h
mutual
/-- a value that stands for data, lists and tuples to be read in F -/
inductive Dq (K : Fg) (F : Hp) : V → PyData → Prop
  | non : Dq K F .non .none
  | bl (b : Bool) : Dq K F (.bl b) (.bool b)
  | int (i : Int) : Dq K F (.int i) (.int i)
  | str (x : Str) : Dq K F (.str x) (.str x)
  | lst {a : Addr} {xs : List V} {ds : List PyData} : SqL K F a xs → DqAll K F xs ds → Dq K F (.ref a) (.list ds)
  | tup {a : Addr} {xs : List V} {ds : List PyData} : SqT K F a xs → DqAll K F xs ds → Dq K F (.ref a) (.tuple ds)
inductive DqAll (K : Fg) (F : Hp) : List V → List PyData → Prop
  | nil : DqAll K F [] []
  | cons {v : V} {vs : List V} {d : PyData} {ds : List PyData} : Dq K F v d → DqAll K F vs ds → DqAll K F (v :: vs) (d :: ds)
end
theorem rd_mono {F H : Hp} {a : Addr} {o : HO} (s : Sub F H) (h : Rd F a o) : Rd H a o := by
  rcases h with h | ⟨u, h⟩
  · exact .inl (s _ _ h)
  · exact .inr ⟨u, s _ _ h⟩
mutual
theorem Dq.mono {K : Fg} {F H : Hp} (s : Sub F H) : ∀ (d : PyData) (v : V), Dq K F v d → Dq K H v d
  | .none, _, h => by cases h; exact .non
  | .bool b, _, h => by cases h; exact .bl b
  | .int i, _, h => by cases h; exact .int i
  | .str x, _, h => by cases h; exact .str x
  | .list ds, _, h => by
    cases h with
    | lst hs ha => exact .lst (seqL_mono s hs) (DqAll.mono s ds _ ha)
  | .tuple ds, _, h => by
    cases h with
    | tup hs ha => exact .tup (seqT_mono s hs) (DqAll.mono s ds _ ha)
  | .dict _, _, h => by cases h
theorem DqAll.mono {K : Fg} {F H : Hp} (s : Sub F H) : ∀ (ds : List PyData) (vs : List V), DqAll K F vs ds → DqAll K H vs ds
  | [], _, h => by cases h; exact .nil
  | d :: ds, _, h => by
    cases h with
    | cons h1 h2 => exact .cons (Dq.mono s d _ h1) (DqAll.mono s ds _ h2)
end
mutual
theorem Dq.dp {K : Fg} {F : Hp} : ∀ (d : PyData) (v : V), Dq K F v d → Dp K F v d
  | .none, _, h => by cases h; exact .non
  | .bool b, _, h => by cases h; exact .bl b
  | .int i, _, h => by cases h; exact .int i
  | .str x, _, h => by cases h; exact .str x
  | .list ds, _, h => by
    cases h with
    | lst hs ha => exact .lst hs (DqAll.dp ds _ ha)
  | .tuple ds, _, h => by
    cases h with
    | tup hs ha => exact .tup hs (DqAll.dp ds _ ha)
  | .dict _, _, h => by cases h
theorem DqAll.dp {K : Fg} {F : Hp} : ∀ (ds : List PyData) (vs : List V), DqAll K F vs ds → DpAll K F vs ds
  | [], _, h => by cases h; exact .nil
  | d :: ds, _, h => by
    cases h with
    | cons h1 h2 => exact .cons (Dq.dp d _ h1) (DqAll.dp ds _ h2)
end
/-- a shared value -/
structure DV (K : Fg) (F : Hp) (v : V) (d : D) : Prop where
  dq : Dq K F v d
  lay : d.canLay0 = true
structure DVs (K : Fg) (F : Hp) (vs : List V) (ds : List D) : Prop where
  dq : DqAll K F vs ds
  lay : PyData.canLayAll0 ds = true
section
variable {K : Fg} {F F' H H' H0 F0 : Hp} {v : V} {d : D} {vs : List V} {ds : List D} {a : Addr}
theorem DV.mono (h : DV K F v d) (s : Sub F H) : DV K H v d := ⟨Dq.mono s _ _ h.dq, h.lay⟩
theorem DVs.mono (h : DVs K F vs ds) (s : Sub F H) : DVs K H vs ds := ⟨DqAll.mono s _ _ h.dq, h.lay⟩
theorem DVs.nil : DVs K F [] [] := ⟨.nil, rfl⟩
theorem DVs.cons (h : DV K F v d) (t : DVs K F vs ds) : DVs K F (v :: vs) (d :: ds) := ⟨.cons h.dq t.dq, by rw [PyData.canLayAll0, h.lay, t.lay]; rfl⟩
theorem DVs.uncons (h : DVs K F vs (d :: ds)) : ∃ v r, vs = v :: r ∧ DV K F v d ∧ DVs K F r ds := by
  obtain ⟨h1, h2⟩ := h
  rw [PyData.canLayAll0, Bool.and_eq_true] at h2
  cases h1 with
  | cons x y => exact ⟨_, _, rfl, ⟨x, h2.1⟩, ⟨y, h2.2⟩⟩
theorem DVs.unnil (h : DVs K F vs []) : vs = [] := by cases h.dq; rfl
theorem DVs.length : ∀ {vs : List V} {ds : List D}, DVs K F vs ds → vs.length = ds.length
  | vs, [], h => by rw [h.unnil]; rfl
  | vs, d :: ds, h => by
    obtain ⟨v, r, rfl, _, h2⟩ := h.uncons
    rw [List.length_cons, List.length_cons, h2.length]
theorem DVs.append : ∀ {vs : List V} {ds : List D} {us : List V} {es : List D}, DVs K F vs ds → DVs K F us es → DVs K F (vs ++ us) (ds ++ es)
  | vs, [], us, es, h, h' => by rw [h.unnil]; exact h'
  | vs, d :: ds, us, es, h, h' => by
    obtain ⟨v, r, rfl, h1, h2⟩ := h.uncons
    exact .cons h1 (h2.append h')
theorem DVs.get : ∀ {vs : List V} {ds : List D} {i : Nat} {d : D}, DVs K F vs ds → ds[i]? = some d → ∃ v, vs[i]? = some v ∧ DV K F v d
  | vs, [], i, d, h, e => by simp at e
  | vs, d' :: ds, 0, d, h, e => by
    obtain ⟨v, r, rfl, h1, h2⟩ := h.uncons
    simp at e; subst e
    exact ⟨v, rfl, h1⟩
  | vs, d' :: ds, i + 1, d, h, e => by
    obtain ⟨v, r, rfl, h1, h2⟩ := h.uncons
    obtain ⟨u, h3, h4⟩ := h2.get (i := i) (by simpa using e)
    exact ⟨u, by simpa using h3, h4⟩
theorem DVs.take (n : Nat) : ∀ {vs : List V} {ds : List D}, DVs K F vs ds → DVs K F (vs.take n) (ds.take n) := by
  induction n with
  | zero => intro vs ds h; simp; exact .nil
  | succ n ih =>
    intro vs ds h
    cases ds with
    | nil => rw [h.unnil]; simp; exact .nil
    | cons d ds =>
      obtain ⟨v, r, rfl, h1, h2⟩ := h.uncons
      exact .cons h1 (ih h2)
theorem DVs.drop (n : Nat) : ∀ {vs : List V} {ds : List D}, DVs K F vs ds → DVs K F (vs.drop n) (ds.drop n) := by
  induction n with
  | zero => intro vs ds h; simpa using h
  | succ n ih =>
    intro vs ds h
    cases ds with
    | nil => rw [h.unnil]; simp; exact .nil
    | cons d ds =>
      obtain ⟨v, r, rfl, h1, h2⟩ := h.uncons
      exact ih h2
theorem DVs.reverse : ∀ {vs : List V} {ds : List D}, DVs K F vs ds → DVs K F vs.reverse ds.reverse
  | vs, [], h => by rw [h.unnil]; exact .nil
  | vs, d :: ds, h => by
    obtain ⟨v, r, rfl, h1, h2⟩ := h.uncons
    rw [List.reverse_cons, List.reverse_cons]
    exact h2.reverse.append (.cons h1 .nil)
theorem DV.int_inv {i : Int} (h : DV K F v (.int i)) : v = .int i := by cases h.dq; rfl
theorem DV.bool_inv {b : Bool} (h : DV K F v (.bool b)) : v = .bl b := by cases h.dq; rfl
theorem DV.none_inv (h : DV K F v .none) : v = .non := by cases h.dq; rfl
theorem DV.str_inv {s : Str} (h : DV K F v (.str s)) : v = .str s := by cases h.dq; rfl
theorem DV.tup_inv (h : DV K F v (.tuple ds)) : ∃ a xs, v = .ref a ∧ SqT K F a xs ∧ DVs K F xs ds := by
  obtain ⟨h1, h2⟩ := h
  rw [PyData.canLay0] at h2
  cases h1 with
  | tup hs ha => exact ⟨_, _, rfl, hs, ⟨ha, h2⟩⟩
theorem DV.lst_inv (h : DV K F v (.list ds)) : ∃ a xs, v = .ref a ∧ SqL K F a xs ∧ DVs K F xs ds := by
  obtain ⟨h1, h2⟩ := h
  rw [PyData.canLay0] at h2
  cases h1 with
  | lst hs ha => exact ⟨_, _, rfl, hs, ⟨ha, h2⟩⟩
theorem DV.no_dict {k : List (D × D)} (h : DV K F v (.dict k)) : False := by cases h.dq
theorem DV.int (i : Int) : DV K F (.int i) (.int i) := ⟨.int i, by simp [PyData.canLay0]⟩
theorem DV.bool (b : Bool) : DV K F (.bl b) (.bool b) := ⟨.bl b, by simp [PyData.canLay0]⟩
theorem DVs.of_ints : ∀ (ns : List Int), DVs K F (ns.map V.int) (ns.map .int)
  | [] => .nil
  | n :: ns => .cons (.int n) (DVs.of_ints ns)
theorem DV.none : DV K F .non .none := ⟨.non, by simp [PyData.canLay0]⟩
theorem DV.tup {a : Addr} {xs : List V} (h : SqT K F a xs) (t : DVs K F xs ds) : DV K F (.ref a) (.tuple ds) := ⟨.tup h t.dq, by rw [PyData.canLay0]; exact t.lay⟩
theorem DV.lst {a : Addr} {xs : List V} (h : SqL K F a xs) (t : DVs K F xs ds) : DV K F (.ref a) (.list ds) := ⟨.lst h t.dq, by rw [PyData.canLay0]; exact t.lay⟩

/-- at the root: a list (a dict: later) that stands alone, its items shared -/
def Root (K : Fg) (F H : Hp) (a : Addr) : D → Prop
  | .list ds => ∃ vs, H a = some (.lst vs) ∧ DVs K F vs ds
  | _ => False
theorem Root.mono {d : D} (h : Root K F H a d) (s : Sub F F') (t : ∀ o, H a = some o → H' a = some o) : Root K F' H' a d := by
  cases d with
  | list ds => obtain ⟨vs, h1, h2⟩ := h; exact ⟨vs, t _ h1, h2.mono s⟩
  | _ => exact h.elim
/-- to be looked at -/
def BV (K : Fg) (F H : Hp) (v : V) (d : D) : Prop := DV K F v d ∨ ∃ a, v = .ref a ∧ F a = none ∧ Root K F H a d
/-- an outcome's value: 0 shared, 1 fresh where it is a list, 2 to be looked at -/
def isRoot : D → Bool
  | .list _ => true
  | .dict _ => true
  | _ => false
def Res (k : Nat) (K : Fg) (F' H' H : Hp) (v : V) (d : D) : Prop :=
  if k = 0 then DV K F' v d else if k = 1 then (if isRoot d = true then ∃ a, v = .ref a ∧ F' a = none ∧ H a = none ∧ Root K F' H' a d else DV K F' v d) else BV K F' H' v d
theorem Res.bv {k : Nat} (h : Res k K F' H' H v d) : BV K F' H' v d := by
  unfold Res at h
  split at h
  · exact .inl h
  · split at h
    · split at h
      · obtain ⟨a, e, f, _, r⟩ := h; exact .inr ⟨a, e, f, r⟩
      · exact .inl h
    · exact h
/-- the shared part grows by new objects, nothing that stood is changed -/
structure Grow (F H F' H' : Hp) : Prop where
  f : Sub F F'
  h : Sub H H'
  fh : Sub F' H'
  new : ∀ a, F' a ≠ none → F a ≠ none ∨ H a = none
  fz : ∀ a o u, F' a = some (.frz o u) → F a = some (.frz o u)
theorem Grow.refl (s : Sub F H) : Grow F H F H := ⟨Sub.refl _, Sub.refl _, s, fun _ h => .inl h, fun _ _ _ h => h⟩
theorem Grow.trans {F1 H1 F2 H2 F3 H3 : Hp} (a : Grow F1 H1 F2 H2) (b : Grow F2 H2 F3 H3) : Grow F1 H1 F3 H3 :=
  ⟨a.f.trans b.f, a.h.trans b.h, b.fh, fun x h => by
    rcases b.new x h with q | q
    · exact a.new x q
    · exact .inr (a.h.none q), fun x o u h => a.fz x o u (b.fz x o u h)⟩
theorem Grow.keep {a : Addr} (g : Grow F H F' H') (h : F a = none) {o : HO} (e : H a = some o) : F' a = none := by
  cases q : F' a with
  | none => rfl
  | some u =>
    rcases g.new a (by rw [q]; intro z; cases z) with z | z
    · exact (z h).elim
    · rw [z] at e; cases e
/-- a new object laid and shared -/
theorem Grow.laid {p : Addr} {o : HO} (s : Sub F H) (h : H p = none) (nf : ∀ q u, o ≠ .frz q u := by intro q u z; cases z) : Grow F H (upd F p o) (upd H p o) :=
  ⟨sub_upd (s.none h), sub_upd h, sub_upd2 s h, fun a e => by
    by_cases q : a = p
    · subst q; exact .inr h
    · rw [upd_ne q] at e; exact .inl e, fun a o' u e => by
    by_cases q : a = p
    · subst q; rw [upd_same] at e; exact absurd (Option.some.inj e) (nf _ _)
    · rw [upd_ne q] at e; exact e⟩
/-- a new object laid, not shared -/
theorem Grow.beside {p : Addr} {o : HO} (s : Sub F H) (h : H p = none) : Grow F H F (upd H p o) :=
  ⟨Sub.refl _, sub_upd h, s.trans (sub_upd h), fun a e => .inl e, fun _ _ _ h => h⟩
theorem BV.grow (h : BV K F H v d) (g : Grow F H F' H') : BV K F' H' v d := by
  rcases h with h | ⟨a, e, f, r⟩
  · exact .inl (h.mono g.f)
  · refine .inr ⟨a, e, ?_, r.mono g.f fun o q => g.h a o q⟩
    cases d with
    | list ds => obtain ⟨vs, h1, _⟩ := r; exact g.keep f h1
    | _ => exact r.elim
theorem Res.grow {k : Nat} {F2 H2 : Hp} (h : Res k K F H H0 v d) (g : Grow F H F2 H2) : Res k K F2 H2 H0 v d := by
  unfold Res at h ⊢
  split at h
  · rename_i e; rw [if_pos e]; exact h.mono g.f
  · rename_i e; rw [if_neg e]
    split at h
    · rename_i e; rw [if_pos e]
      split at h
      · rename_i e; rw [if_pos e]
        obtain ⟨a, e1, f, n, r⟩ := h
        refine ⟨a, e1, ?_, n, r.mono g.f fun o q => g.h a o q⟩
        cases d with
        | list ds => obtain ⟨vs, h1, _⟩ := r; exact g.keep f h1
        | _ => exact r.elim
      · rename_i e; rw [if_neg e]; exact h.mono g.f
    · rename_i e; rw [if_neg e]; exact h.grow g
/-- what stands alone is shared from now on -/
theorem BV.share (h : BV K F H v d) (s : Sub F H) : ∃ F', Sub F F' ∧ Sub F' H ∧ DV K F' v d ∧ (∀ a, F' a ≠ none → F a ≠ none ∨ v = .ref a) ∧ ∀ a o u, F' a = some (.frz o u) → F a = some (.frz o u) := by
  rcases h with h | ⟨a, e, f, r⟩
  · exact ⟨F, Sub.refl _, s, h, fun _ q => .inl q, fun _ _ _ q => q⟩
  · cases d with
    | list ds =>
      obtain ⟨vs, h1, h2⟩ := r
      refine ⟨upd F a (.lst vs), sub_upd f, fun b o q => ?_, e ▸ DV.lst (.inl (.inl upd_same)) (h2.mono (sub_upd f)), fun b q => ?_, fun b o u q => ?_⟩
      · by_cases z : b = a
        · subst z; rw [upd_same] at q; cases q; exact h1
        · rw [upd_ne z] at q; exact s b o q
      · by_cases z : b = a
        · subst z; exact .inr e
        · rw [upd_ne z] at q; exact .inl q
      · by_cases z : b = a
        · subst z; rw [upd_same] at q; cases q
        · rw [upd_ne z] at q; exact q
    | _ => exact r.elim
/-- an outcome that is no borrowed name's is shared -/
theorem Res.share {k : Nat} (h : Res k K F' H' H v d) (hk : k = 0 ∨ k = 1) (g : Grow F H F' H') : ∃ F2, Grow F H F2 H' ∧ Sub F' F2 ∧ DV K F2 v d := by
  unfold Res at h
  rcases hk with rfl | rfl
  · rw [if_pos rfl] at h; exact ⟨F', g, Sub.refl _, h⟩
  · rw [if_neg (by decide), if_pos rfl] at h
    split at h
    · obtain ⟨a, e, f, n, r⟩ := h
      obtain ⟨F2, s1, s2, s3, s4, s5⟩ := BV.share (.inr ⟨a, e, f, r⟩ : BV K F' H' v d) g.fh
      refine ⟨F2, ⟨g.f.trans s1, g.h, s2, fun b q => ?_, fun b o u q => g.fz b o u (s5 b o u q)⟩, s1, s3⟩
      rcases s4 b q with z | z
      · exact g.new b z
      · rw [e] at z; cases z; exact .inr n
    · exact ⟨F', g, Sub.refl _, h⟩
end
end DL

/-! DOrd: the order of tuples of ints; sorting is one thing. -/
namespace DL
open PySem PySem.W PyProof.Rows
theorem ltI_data : ∀ (a b : List Int), dataLt (tD a) (tD b) = ltI a b := by
  have core : ∀ (a b : List Int), PyProof.Rows.lexLt itemOrd (keyToksAll (a.map .int)) (keyToksAll (b.map .int)) = ltI a b := by
    intro a
    induction a with
    | nil =>
      intro b
      cases b with
      | nil => rfl
      | cons y b =>
        rw [List.map_nil, List.map_cons, keyToksAll, keyToksAll]
        exact PyProof.Rows.lex_diff (O := itemOrd) (x := Sum.inl 0) (y := Sum.inl 1) (by simp)
    | cons x a ih =>
      intro b
      cases b with
      | nil =>
        rw [List.map_nil, List.map_cons, keyToksAll, keyToksAll]
        exact PyProof.Rows.lex_diff (O := itemOrd) (x := Sum.inl 1) (y := Sum.inl 0) (by simp)
      | cons y b =>
        rw [List.map_cons, List.map_cons, keyToksAll, keyToksAll, keyToks, keyToks]
        refine (PyProof.Rows.lex_self (O := itemOrd) (Sum.inl 1) _ _).trans ?_
        show PyProof.Rows.lexLt itemOrd (Sum.inl x :: keyToksAll (a.map .int)) (Sum.inl y :: keyToksAll (b.map .int)) = ltI (x :: a) (y :: b)
        unfold ltI
        by_cases h : x = y
        · subst h
          rw [if_pos rfl]
          exact (PyProof.Rows.lex_self (O := itemOrd) (Sum.inl x) _ _).trans (ih b)
        · rw [if_neg h]
          exact PyProof.Rows.lex_diff (O := itemOrd) (x := Sum.inl x) (y := Sum.inl y) (by simpa using h)
  intro a b
  unfold dataLt tD
  rw [keyToks, keyToks]
  exact core a b
theorem ltI_irrefl : ∀ (a : List Int), ltI a a = false
  | [] => rfl
  | x :: a => by unfold ltI; rw [if_pos rfl]; exact ltI_irrefl a
theorem ltI_trans : ∀ {a b c : List Int}, ltI a b = true → ltI b c = true → ltI a c = true
  | [], [], _, h, _ => by cases h
  | [], _ :: _, [], _, h => by cases h
  | [], _ :: _, _ :: _, _, _ => rfl
  | _ :: _, [], _, h, _ => by cases h
  | _ :: _, _ :: _, [], _, h => by cases h
  | x :: a, y :: b, z :: c, h1, h2 => by
    unfold ltI at h1 h2 ⊢
    by_cases e1 : x = y
    · rw [if_pos e1] at h1
      subst e1
      by_cases e2 : x = z
      · rw [if_pos e2] at h2 ⊢
        exact ltI_trans h1 h2
      · rw [if_neg e2] at h2 ⊢
        exact h2
    · rw [if_neg e1] at h1
      have h1 := of_decide_eq_true h1
      by_cases e2 : y = z
      · subst e2
        rw [if_neg e1]
        exact decide_eq_true h1
      · rw [if_neg e2] at h2
        have h2 := of_decide_eq_true h2
        rw [if_neg (by omega)]
        exact decide_eq_true (by omega)
theorem ltI_total : ∀ {a b : List Int}, ltI a b = false → a = b ∨ ltI b a = true
  | [], [], _ => .inl rfl
  | [], _ :: _, h => by cases h
  | _ :: _, [], _ => .inr rfl
  | x :: a, y :: b, h => by
    unfold ltI at h ⊢
    by_cases e : x = y
    · subst e
      rw [if_pos rfl] at h ⊢
      rcases ltI_total h with z | z
      · exact .inl (by rw [z])
      · exact .inr z
    · rw [if_neg e] at h
      have h := of_decide_eq_false h
      rw [if_neg (fun z => e z.symm)]
      exact .inr (decide_eq_true (by omega))
theorem ltI_asymm {a b : List Int} (h : ltI a b = true) : ltI b a = false := by
  cases e : ltI b a with
  | false => rfl
  | true => have := ltI_trans h e; rw [ltI_irrefl] at this; cases this
theorem leI_trans (a b c : List Int) (h1 : leI a b = true) (h2 : leI b c = true) : leI a c = true := by
  unfold leI at h1 h2 ⊢
  rw [Bool.not_eq_true'] at h1 h2 ⊢
  cases e : ltI c a with
  | false => rfl
  | true =>
    rcases ltI_total h1 with z | z
    · subst z; rw [e] at h2; cases h2
    · have := ltI_trans e z
      rw [h2] at this
      cases this
theorem leI_total (a b : List Int) : (leI a b || leI b a) = true := by
  unfold leI
  cases e : ltI b a with
  | false => rfl
  | true => rw [ltI_asymm e]; rfl
theorem leI_antisymm {a b : List Int} (h1 : leI a b = true) (h2 : leI b a = true) : a = b := by
  unfold leI at h1 h2
  rw [Bool.not_eq_true'] at h1 h2
  rcases ltI_total h1 with z | z
  · exact z.symm
  · rw [z] at h2; cases h2
theorem sorted_unique : ∀ {l m : List (List Int)}, l.Perm m → l.Pairwise (fun a b => leI a b = true) → m.Pairwise (fun a b => leI a b = true) → l = m
  | [], m, p, _, _ => (List.nil_perm.mp p).symm
  | x :: l, [], p, _, _ => by have := p.length_eq; cases this
  | x :: l, y :: m, p, h1, h2 => by
    rw [List.pairwise_cons] at h1 h2
    have e : x = y := by
      have m1 : x ∈ y :: m := p.mem_iff.mp List.mem_cons_self
      have m2 : y ∈ x :: l := p.mem_iff.mpr List.mem_cons_self
      rcases List.mem_cons.mp m1 with z | z
      · exact z
      · rcases List.mem_cons.mp m2 with z' | z'
        · exact z'.symm
        · exact leI_antisymm (h1.1 y z') (h2.1 x z)
    subst e
    rw [sorted_unique (List.Perm.cons_inv p) h1.2 h2.2]
theorem sortI_sorted (l : List (List Int)) : (sortI l).Pairwise (fun a b => leI a b = true) := List.pairwise_mergeSort leI_trans leI_total l
theorem sortI_perm (l : List (List Int)) : (sortI l).Perm l := List.mergeSort_perm l leI
theorem sortI_eq {l m : List (List Int)} (p : l.Perm m) : sortI l = sortI m := sorted_unique ((sortI_perm l).trans (p.trans (sortI_perm m).symm)) (sortI_sorted l) (sortI_sorted m)
theorem mem_dd : ∀ {l : List (List Int)} {x : List Int}, x ∈ dd l ↔ x ∈ l
  | [], x => Iff.rfl
  | y :: l, x => by
    unfold dd
    split
    · rename_i h
      rw [mem_dd, List.mem_cons]
      exact ⟨.inr, fun z => z.elim (fun e => e ▸ h) id⟩
    · rw [List.mem_cons, List.mem_cons, mem_dd]
theorem nodup_dd : ∀ (l : List (List Int)), (dd l).Nodup
  | [] => List.nodup_nil
  | y :: l => by
    unfold dd
    split
    · exact nodup_dd l
    · rename_i h
      exact List.nodup_cons.mpr ⟨fun z => h (mem_dd.mp z), nodup_dd l⟩
theorem perm_dd {l m : List (List Int)} (n : l.Nodup) (h : ∀ x, x ∈ l ↔ x ∈ m) : l.Perm (dd m) := (List.perm_ext_iff_of_nodup n (nodup_dd m)).mpr fun x => (h x).trans mem_dd.symm
theorem dd_len : ∀ (l : List (List Int)), (dd l).length ≤ l.length
  | [] => Nat.le_refl _
  | y :: l => by
    have := dd_len l
    unfold dd
    split
    · rw [List.length_cons]; omega
    · rw [List.length_cons, List.length_cons]; omega
theorem dd_id : ∀ {l : List (List Int)}, l.Nodup → dd l = l
  | [], _ => rfl
  | y :: l, h => by
    rw [List.nodup_cons] at h
    unfold dd
    rw [if_neg h.1, dd_id h.2]
end DL

/-! DOps: operators, comparisons by values. -/
namespace DL
open PySem PySem.Spec PyProof.Rows L2
section
variable {K : Fg} {F F' H H' H0 F0 : Hp} {v w u : V} {d x y : D} {vs : List V} {ds : List D} {a : Addr} {Q : VK} {k : Nat}
theorem BV.dv (h : BV K F H v d) (e : isRoot d = false) : DV K F v d := by
  rcases h with h | ⟨a, _, _, r⟩
  · exact h
  · cases d with
    | list _ => cases e
    | _ => exact r.elim
theorem BV.lst_inv (h : BV K F H v (.list ds)) (s : Sub F H) : ∃ a xs, v = .ref a ∧ SqL K H a xs ∧ DVs K F xs ds := by
  rcases h with h | ⟨a, e, _, xs, h1, h2⟩
  · obtain ⟨a, xs, e, h1, h2⟩ := h.lst_inv
    exact ⟨a, xs, e, seqL_mono s h1, h2⟩
  · exact ⟨a, xs, e, .inl (.inl h1), h2⟩
theorem Res.flat (h : DV K F w d) (e : isRoot d = false) : Res k K F H H0 w d := by
  unfold Res
  split
  · exact h
  · split
    · rw [if_neg (by rw [e]; decide)]; exact h
    · exact .inl h
theorem Res.fresh {p : Addr} {vs : List V} (h : H0 p = none) (f : F p = none) (e : H p = some (.lst vs)) (t : DVs K F vs ds) : Res 1 K F H H0 (.ref p) (.list ds) := by
  unfold Res
  rw [if_neg (by decide), if_pos rfl]
  exact ⟨p, rfl, f, h, vs, e, t⟩
theorem BV.dp (h : BV K F H v d) (s : Sub F H) : Dp K H v d := by
  rcases h with h | ⟨a, e, _, r⟩
  · exact (h.mono s).dq.dp
  · cases d with
    | list ds => obtain ⟨xs, h1, h2⟩ := r; exact e ▸ .lst (.inl (.inl h1)) (h2.mono s).dq.dp
    | _ => exact r.elim
theorem BV.lay (h : BV K F H v d) : d.canLay0 = true := by
  rcases h with h | ⟨a, e, _, r⟩
  · exact h.lay
  · cases d with
    | list ds => obtain ⟨xs, h1, h2⟩ := r; rw [PyData.canLay0]; exact h2.lay
    | _ => exact r.elim
theorem BV.int_inv {i : Int} (h : BV K F H v (.int i)) : v = .int i := (h.dv rfl).int_inv
theorem BV.str_inv {i : Str} (h : BV K F H v (.str i)) : v = .str i := (h.dv rfl).str_inv
theorem BV.bool_inv {i : Bool} (h : BV K F H v (.bool i)) : v = .bl i := (h.dv rfl).bool_inv
theorem BV.tup_inv (h : BV K F H v (.tuple ds)) (s : Sub F H) : ∃ a xs, v = .ref a ∧ SqT K H a xs ∧ SqT K F a xs ∧ DVs K F xs ds := by
  obtain ⟨a, xs, e, h1, h2⟩ := (h.dv rfl).tup_inv
  exact ⟨a, xs, e, seqT_mono s h1, h1, h2⟩
theorem BV.lst_inv' (h : BV K F H v (.list ds)) (s : Sub F H) : ∃ a xs, v = .ref a ∧ SqL K H a xs ∧ DVs K F xs ds := by
  rcases h with h | ⟨a, e, _, xs, h1, h2⟩
  · obtain ⟨a, xs, e, h1, h2⟩ := h.lst_inv
    exact ⟨a, xs, e, seqL_mono s h1, h2⟩
  · exact ⟨a, xs, e, .inl (.inl h1), h2⟩
/-- an operator's end -/
def PostV (K : Fg) (F H : Hp) (k : Nat) (m : M D) (Q : VK) : Prop := match m with
  | .ok d => ∀ w F' H', Grow F H F' H' → Res k K F' H' H w d → Q w H'
  | _ => False
theorem PostV.flat (p : PostV K F H k (.ok d) Q) (s : Sub F H) (h : DV K F w d) (e : isRoot d = false) : Q w H := p w F H (Grow.refl s) (.flat h e)
theorem PostV.guard {c : Bool} {m : M D} (p : PostV K F H k (if c = true then m else .bad) Q) : c = true ∧ PostV K F H k m Q := by
  cases c with
  | true => exact ⟨rfl, p⟩
  | false => exact p.elim
theorem PostV.iteP {c : Prop} [Decidable c] {m : M D} (p : PostV K F H k (if c then m else .bad) Q) : c ∧ PostV K F H k m Q := by
  by_cases h : c
  · rw [if_pos h] at p; exact ⟨h, p⟩
  · rw [if_neg h] at p; exact p.elim
/-- a new tuple, a new list -/
theorem PostV.newTup {xs : List V} (p : PostV K F H k (.ok (.tuple ds)) Q) (s : Sub F H) (t : DVs K F xs ds) {q : Addr} (n : H q = none) : Q (.ref q) (upd H q (.tup xs)) :=
  p _ (upd F q (.tup xs)) _ (Grow.laid s n) (.flat (.tup (.inl (.inl upd_same)) (t.mono (sub_upd (s.none n)))) rfl)
theorem PostV.newLst {xs : List V} (p : PostV K F H 1 (.ok (.list ds)) Q) (s : Sub F H) (t : DVs K F xs ds) {q : Addr} (n : H q = none) : Q (.ref q) (upd H q (.lst xs)) :=
  p _ F _ (Grow.beside s n) (.fresh n (s.none n) upd_same t)
/-- by the values of two -/
def rD2 (K : Fg) (k : Nat) (f : D → D → M D) : R2 := fun v u H Q => ∃ F x y, Sub F H ∧ BV K F H v x ∧ BV K F H u y ∧ PostV K F H k (f x y) Q
def rD1 (K : Fg) (k : Nat) (f : D → M D) : V → Hp → VK → Prop := fun v H Q => ∃ F x, Sub F H ∧ BV K F H v x ∧ PostV K F H k (f x) Q
end
def bopOf : Bop → Operator
  | .add => .Add | .sub => .Sub | .mul => .Mult | .fdiv => .FloorDiv | .md => .Mod | .pow => .Pow | .shl => .LShift | .shr => .RShift | .band => .BitAnd
section
variable {X : Cx}
theorem line_eq : line = sizeLine := by rw [sizeLine_eq]; rfl
theorem strOk_append {x y : Str} (h : PyData.strOk x = true) (g : PyData.strOk y = true) : PyData.strOk (x ++ y) = true := by
  unfold PyData.strOk at h g ⊢
  show (x.cps ++ y.cps).all _ = true
  rw [Array.all_append, h, g]
  rfl
/-- lists that are read -/
theorem op_catL : OpR X (binaryOp .Add) (fun x y H Q => ∃ l b xs zs, x = .ref l ∧ y = .ref b ∧ SqL X.K H l xs ∧ SqL X.K H b zs ∧ xs.length + zs.length ≤ sizeLine ∧ ∀ p, H p = none → Q (.ref p) (upd H p (.lst (xs ++ zs)))) := by
  intro pins s σ H x y v u Q I rx ry h
  obtain ⟨l, b, xs, zs, rfl, rfl, hH, hB, hz, q⟩ := h
  cases rx
  cases ry
  obtain ⟨its, r, p1, _⟩ := I.list hH
  obtain ⟨its2, r2, p2, _⟩ := I.list hB
  have hl := r.length
  have hl2 := r2.length
  obtain ⟨⟨cls, dd, data, sl⟩, ho, hc, n, hd⟩ := p1.isList
  obtain ⟨⟨cls2, dd2, data2, sl2⟩, ho2, hc2, n2, hd2⟩ := p2.isList
  simp only at hc hd hc2 hd2
  subst hc hd hc2 hd2
  have e : its.toArray ++ its2.toArray = (its ++ its2).toArray := by simp
  refine concat_meets ⟨_, ho, rfl⟩ ⟨_, ho2, rfl⟩ noFill_list_add seq_list_add PySem.F.slot_list_add PySem.F.entry_list_add (PySem.F.args_list_add_2 _ _) (list_addW l b its.toArray its2.toArray n n2 dd dd2 sl sl2 (by rw [List.size_toArray, List.size_toArray]; omega)) ⟨ho, ho2, ?_⟩
  rw [e]
  exact ⟨.ref _, _, I.lnew (t' := s.toks) (r.append r2) (by rw [List.length_append]; omega), rfl, q _ I.fresh⟩
theorem small_of {i : Int} (h : small i = true) : -(2 ^ 64) < i ∧ i < 2 ^ 64 := by
  have := Nat.le_of_ble_eq_true h
  omega
theorem op_bin (o : Bop) : OpR X (binaryOp (bopOf o)) (rD2 X.K 1 (binD o)) := by
  intro pins s σ H v u v' u' Q I rv ru ⟨F, x, y, sb, hx, hy, p⟩
  unfold binD at p
  split at p
  case h_1 i j => cases hx.int_inv; cases hy.int_inv; exact op_add pins s σ H _ _ _ _ Q I rv ru ⟨i, j, rfl, rfl, p.flat sb (.int _) rfl⟩
  case h_2 xs ys =>
    obtain ⟨a, vs, rfl, h1, f1, t1⟩ := hx.tup_inv sb
    obtain ⟨b, us, rfl, h2, f2, t2⟩ := hy.tup_inv sb
    unfold mkTup at p
    obtain ⟨hz, p⟩ := p.iteP
    have e1 := t1.length
    have e2 := t2.length
    rw [List.length_append] at hz
    refine op_catA pins s σ H _ _ _ _ Q I rv ru ⟨a, b, vs, us, rfl, rfl, h1, h2, by rw [← line_eq]; omega, fun z => ?_, fun z z2 => ?_, fun _ _ q hq => p.newTup sb (t1.append t2) hq⟩
    · subst z
      have : xs = [] := List.eq_nil_of_length_eq_zero e1.symm
      subst this
      exact p.flat sb (.tup f2 t2) rfl
    · subst z2
      have : ys = [] := List.eq_nil_of_length_eq_zero e2.symm
      subst this
      rw [List.append_nil] at p
      exact p.flat sb (.tup f1 t1) rfl
  case h_3 xs ys =>
    obtain ⟨a, vs, rfl, h1, t1⟩ := hx.lst_inv' sb
    obtain ⟨b, us, rfl, h2, t2⟩ := hy.lst_inv' sb
    unfold mkLst at p
    obtain ⟨hz, p⟩ := p.iteP
    have e1 := t1.length
    have e2 := t2.length
    rw [List.length_append] at hz
    exact op_catL pins s σ H _ _ _ _ Q I rv ru ⟨a, b, vs, us, rfl, rfl, h1, h2, by rw [← line_eq]; omega, fun q hq => p.newLst sb (t1.append t2) hq⟩
  case h_4 x y =>
    cases hx.str_inv; cases hy.str_inv
    obtain ⟨hz, p⟩ := p.iteP
    refine op_add_str pins s σ H _ _ _ _ Q I rv ru ⟨x, y, rfl, rfl, by rw [← line_eq]; exact hz, p.flat sb ⟨.str _, ?_⟩ rfl⟩
    have h1 := hx.lay
    have h2 := hy.lay
    rw [PyData.canLay0] at h1 h2 ⊢
    exact strOk_append h1 h2
  case h_5 i j => cases hx.int_inv; cases hy.int_inv; exact op_sub pins s σ H _ _ _ _ Q I rv ru ⟨i, j, rfl, rfl, p.flat sb (.int _) rfl⟩
  case h_6 i j =>
    cases hx.int_inv; cases hy.int_inv
    obtain ⟨hc, p⟩ := p.iteP
    exact op_mul pins s σ H _ _ _ _ Q I rv ru ⟨i, j, rfl, rfl, hc.elim (fun z => .inl (small_of z)) fun z => .inr (small_of z), p.flat sb (.int _) rfl⟩
  case h_7 i j =>
    cases hx.int_inv; cases hy.int_inv
    obtain ⟨hc, p⟩ := p.iteP
    exact op_fdivN pins s σ H _ _ _ _ Q I rv ru ⟨i, j, rfl, rfl, hc, p.flat sb (.int _) rfl⟩
  case h_8 i j =>
    cases hx.int_inv; cases hy.int_inv
    obtain ⟨hc, p⟩ := p.iteP
    exact op_modN pins s σ H _ _ _ _ Q I rv ru ⟨i, j, rfl, rfl, hc, p.flat sb (.int _) rfl⟩
  case h_9 i j =>
    cases hx.int_inv; cases hy.int_inv
    obtain ⟨hc, p⟩ := p.iteP
    exact op_pow pins s σ H _ _ _ _ Q I rv ru ⟨i, j, rfl, rfl, hc, p.flat sb (.int _) rfl⟩
  case h_10 i j =>
    cases hx.int_inv; cases hy.int_inv
    obtain ⟨hc, p⟩ := p.iteP
    exact op_shl pins s σ H _ _ _ _ Q I rv ru ⟨i, j, rfl, rfl, hc, p.flat sb (.int _) rfl⟩
  case h_11 i j =>
    cases hx.int_inv; cases hy.int_inv
    obtain ⟨hc, p⟩ := p.iteP
    exact op_shr pins s σ H _ _ _ _ Q I rv ru ⟨i, j, rfl, rfl, hc, p.flat sb (.int _) rfl⟩
  case h_12 i j => cases hx.int_inv; cases hy.int_inv; exact op_and pins s σ H _ _ _ _ Q I rv ru ⟨i, j, rfl, rfl, p.flat sb (.int _) rfl⟩
  case h_13 => exact p.elim

def copOf : Cop → CmpOp
  | .eq => .Eq | .ne => .NotEq | .lt => .Lt | .le => .LtE | .gt => .Gt | .ge => .GtE | .isN => .Is | .notN => .IsNot | .isT => .Is | .notT => .IsNot | .isF => .Is | .notF => .IsNot | .mem => .In | .nmem => .NotIn
theorem okDep_room {x y : D} {A : Around} {k : Nat} (h : okDep x y = true) (hr : Room k A) : A.units + min x.depth y.depth < cLine := by
  have h1 : min x.depth y.depth ≤ 64 := of_decide_eq_true h
  have := hr.un
  omega
theorem okDep_room1 {xs : List D} {y : D} {A : Around} {k : Nat} (h : okDep (.tuple xs) y = true) (hr : Room k A) : A.units + 1 + min (PyData.depthAll xs) y.depth < cLine := by
  have h1 : min (PyData.depth (.tuple xs)) y.depth ≤ 64 := of_decide_eq_true h
  have := hr.un
  rw [PyData.depth] at h1
  omega
theorem okDep_room2 {xs : List D} {y : D} {A : Around} {k : Nat} (h : okDep (.list xs) y = true) (hr : Room k A) : A.units + 1 + min (PyData.depthAll xs) y.depth < cLine := by
  have h1 : min (PyData.depth (.list xs)) y.depth ≤ 64 := of_decide_eq_true h
  have := hr.un
  rw [PyData.depth] at h1
  omega
theorem okLt_of {x y : D} {A : Around} {k : Nat} (h : okLt x y = true) (hr : Room k A) : PySem.W.alike x y = true ∧ x ≠ .none ∧ A.units + min x.depth y.depth < cLine := by
  unfold okLt at h
  rw [Bool.and_eq_true, Bool.and_eq_true] at h
  obtain ⟨⟨h1, h2⟩, h3⟩ := h
  have h3 : x.depth ≤ 64 := of_decide_eq_true h3
  have := hr.un
  exact ⟨h1, (fun e => by subst e; cases h2), by omega⟩
section
variable {pins : List (Addr × Obj)} {s : Shared} {σ : L2.St} {H F : Hp} {v u : V} {v' u' : Value} {Q : VK} {x y : D} {k j : Nat}
theorem lt_dat (hr : Room k X.A) (I : Inv X pins σ H s) (rv : RelV v v') (ru : RelV u u') (sb : Sub F H) (hx : BV X.K F H v x) (hy : BV X.K F H u y) (p : PostV X.K F H j (if okLt x y = true then .ok (.bool (PySem.W.dataLt x y)) else .bad) Q) :
    wpAny (model X.prog X.w) X.A (compareOp .Lt v' u') (EP X pins σ Q) X.xe s := by
  obtain ⟨hc, p⟩ := p.guard
  obtain ⟨h1, h2, h3⟩ := okLt_of hc hr
  obtain ⟨as, r1⟩ := Dp.reads I x v v' (hx.dp sb) rv
  obtain ⟨bs, r2⟩ := Dp.reads I y u u' (hy.dp sb) ru
  exact PySem.W.lt_data r1 r2 h1 h2 h3 ⟨.bl _, H, I, rfl, p.flat sb (.bool _) rfl⟩
theorem le_dat (hr : Room k X.A) (I : Inv X pins σ H s) (rv : RelV v v') (ru : RelV u u') (sb : Sub F H) (hx : BV X.K F H v x) (hy : BV X.K F H u y) (p : PostV X.K F H j (if okLt x y = true then .ok (.bool (!PySem.W.dataLt y x)) else .bad) Q) :
    wpAny (model X.prog X.w) X.A (compareOp .LtE v' u') (EP X pins σ Q) X.xe s := by
  obtain ⟨hc, p⟩ := p.guard
  obtain ⟨h1, h2, h3⟩ := okLt_of hc hr
  obtain ⟨as, r1⟩ := Dp.reads I x v v' (hx.dp sb) rv
  obtain ⟨bs, r2⟩ := Dp.reads I y u u' (hy.dp sb) ru
  exact PySem.W.le_data r1 r2 h1 h2 h3 ⟨.bl _, H, I, rfl, p.flat sb (.bool _) rfl⟩
theorem gt_dat (hr : Room k X.A) (I : Inv X pins σ H s) (rv : RelV v v') (ru : RelV u u') (sb : Sub F H) (hx : BV X.K F H v x) (hy : BV X.K F H u y) (p : PostV X.K F H j (if okLt x y = true then .ok (.bool (PySem.W.dataLt y x)) else .bad) Q) :
    wpAny (model X.prog X.w) X.A (compareOp .Gt v' u') (EP X pins σ Q) X.xe s := by
  obtain ⟨hc, p⟩ := p.guard
  obtain ⟨h1, h2, h3⟩ := okLt_of hc hr
  obtain ⟨as, r1⟩ := Dp.reads I x v v' (hx.dp sb) rv
  obtain ⟨bs, r2⟩ := Dp.reads I y u u' (hy.dp sb) ru
  exact PySem.W.gt_data r1 r2 h1 h2 h3 ⟨.bl _, H, I, rfl, p.flat sb (.bool _) rfl⟩
theorem ge_dat (hr : Room k X.A) (I : Inv X pins σ H s) (rv : RelV v v') (ru : RelV u u') (sb : Sub F H) (hx : BV X.K F H v x) (hy : BV X.K F H u y) (p : PostV X.K F H j (if okLt x y = true then .ok (.bool (!PySem.W.dataLt x y)) else .bad) Q) :
    wpAny (model X.prog X.w) X.A (compareOp .GtE v' u') (EP X pins σ Q) X.xe s := by
  obtain ⟨hc, p⟩ := p.guard
  obtain ⟨h1, h2, h3⟩ := okLt_of hc hr
  obtain ⟨as, r1⟩ := Dp.reads I x v v' (hx.dp sb) rv
  obtain ⟨bs, r2⟩ := Dp.reads I y u u' (hy.dp sb) ru
  exact PySem.W.ge_data r1 r2 h1 h2 h3 ⟨.bl _, H, I, rfl, p.flat sb (.bool _) rfl⟩
theorem BV.isNone (h : BV X.K F H v x) : decide (v = .non) = !notNone x := by
  cases x with
  | none => rw [(h.dv rfl).none_inv] <;> rfl
  | bool b => rw [h.bool_inv] <;> rfl
  | int i => rw [h.int_inv] <;> rfl
  | str s => rw [h.str_inv] <;> rfl
  | tuple xs => obtain ⟨a, vs, e, _⟩ := (h.dv rfl).tup_inv; rw [e] <;> rfl
  | list xs =>
    rcases h with h | ⟨a, e, _⟩
    · obtain ⟨a, vs, e, _⟩ := h.lst_inv; rw [e] <;> rfl
    · rw [e] <;> rfl
  | dict k =>
    rcases h with h | ⟨a, e, _⟩
    · exact h.no_dict.elim
    · rw [e] <;> rfl
end
theorem op_cmp {k : Nat} (hr : Room k X.A) (o : Cop) : OpR X (compareOp (copOf o)) (rD2 X.K 1 (cmpD o)) := by
  intro pins s σ H v u v' u' Q I rv ru ⟨F, x, y, sb, hx, hy, p⟩
  unfold cmpD at p
  split at p
  case h_1 =>
    obtain ⟨hc, p⟩ := p.guard
    obtain ⟨as, r1⟩ := Dp.reads I x v v' (hx.dp sb) rv
    obtain ⟨bs, r2⟩ := Dp.reads I y u u' (hy.dp sb) ru
    exact SeqAt.compareEq_reads r1 r2 hx.lay hy.lay (okDep_room hc hr) ⟨.bl _, H, I, rfl, p.flat sb (.bool _) rfl⟩
  case h_2 =>
    obtain ⟨hc, p⟩ := p.guard
    obtain ⟨as, r1⟩ := Dp.reads I x v v' (hx.dp sb) rv
    obtain ⟨bs, r2⟩ := Dp.reads I y u u' (hy.dp sb) ru
    exact SeqAt.compareNe_reads r1 r2 hx.lay hy.lay (okDep_room hc hr) ⟨.bl _, H, I, rfl, p.flat sb (.bool _) rfl⟩
  case h_3 i j => cases hx.int_inv; cases hy.int_inv; exact op_lt pins s σ H _ _ _ _ Q I rv ru ⟨i, j, rfl, rfl, p.flat sb (.bool _) rfl⟩
  case h_4 i j => cases hx.int_inv; cases hy.int_inv; exact op_le pins s σ H _ _ _ _ Q I rv ru ⟨i, j, rfl, rfl, p.flat sb (.bool _) rfl⟩
  case h_5 i j => cases hx.int_inv; cases hy.int_inv; exact op_gt pins s σ H _ _ _ _ Q I rv ru ⟨i, j, rfl, rfl, p.flat sb (.bool _) rfl⟩
  case h_6 i j => cases hx.int_inv; cases hy.int_inv; exact op_ge pins s σ H _ _ _ _ Q I rv ru ⟨i, j, rfl, rfl, p.flat sb (.bool _) rfl⟩
  case h_7 => exact lt_dat hr I rv ru sb hx hy p
  case h_8 => exact le_dat hr I rv ru sb hx hy p
  case h_9 => exact gt_dat hr I rv ru sb hx hy p
  case h_10 => exact ge_dat hr I rv ru sb hx hy p
  case h_11 =>
    cases (hy.dv rfl).none_inv
    exact op_isN pins s σ H _ _ _ _ Q I rv ru ⟨rfl, by rw [hx.isNone]; exact p.flat sb (.bool _) rfl⟩
  case h_12 =>
    cases (hy.dv rfl).none_inv
    exact op_notN pins s σ H _ _ _ _ Q I rv ru ⟨rfl, by rw [hx.isNone, Bool.not_not]; exact p.flat sb (.bool _) rfl⟩
  case h_13 a =>
    cases hx.bool_inv; cases hy.bool_inv
    refine op_is_bl pins s σ H _ _ _ _ Q I rv ru ⟨_, _, rfl, rfl, ?_⟩
    have e : decide (a = true) = a := by cases a <;> rfl
    rw [e]; exact p.flat sb (.bool _) rfl
  case h_14 a =>
    cases hx.bool_inv; cases hy.bool_inv
    refine op_isnot_bl pins s σ H _ _ _ _ Q I rv ru ⟨_, _, rfl, rfl, ?_⟩
    have e : (!decide (a = true)) = !a := by cases a <;> rfl
    rw [e]; exact p.flat sb (.bool _) rfl
  case h_15 a =>
    cases hx.bool_inv; cases hy.bool_inv
    refine op_is_bl pins s σ H _ _ _ _ Q I rv ru ⟨_, _, rfl, rfl, ?_⟩
    have e : decide (a = false) = !a := by cases a <;> rfl
    rw [e]; exact p.flat sb (.bool _) rfl
  case h_16 a =>
    cases hx.bool_inv; cases hy.bool_inv
    refine op_isnot_bl pins s σ H _ _ _ _ Q I rv ru ⟨_, _, rfl, rfl, ?_⟩
    have e : (!decide (a = false)) = a := by cases a <;> rfl
    rw [e]; exact p.flat sb (.bool _) rfl
  case h_17 xs =>
    obtain ⟨hc, p⟩ := p.guard
    obtain ⟨as, r1⟩ := Dp.reads I x v v' (hx.dp sb) rv
    obtain ⟨bs, r2⟩ := Dp.reads I _ u u' (hy.dp sb) ru
    have hl := hy.lay
    rw [PyData.canLay0] at hl
    exact SeqAt.in_tuple_reads r2 r1 hl hx.lay (okDep_room1 hc hr) ⟨.bl _, H, I, rfl, p.flat sb (.bool _) rfl⟩
  case h_18 xs =>
    obtain ⟨hc, p⟩ := p.guard
    obtain ⟨as, r1⟩ := Dp.reads I x v v' (hx.dp sb) rv
    obtain ⟨bs, r2⟩ := Dp.reads I _ u u' (hy.dp sb) ru
    have hl := hy.lay
    rw [PyData.canLay0] at hl
    exact SeqAt.in_list_reads r2 r1 hl hx.lay (okDep_room2 hc hr) ⟨.bl _, H, I, rfl, p.flat sb (.bool _) rfl⟩
  case h_19 xs =>
    obtain ⟨hc, p⟩ := p.guard
    obtain ⟨as, r1⟩ := Dp.reads I x v v' (hx.dp sb) rv
    obtain ⟨bs, r2⟩ := Dp.reads I _ u u' (hy.dp sb) ru
    have hl := hy.lay
    rw [PyData.canLay0] at hl
    exact SeqAt.notIn_tuple_reads r2 r1 hl hx.lay (okDep_room1 hc hr) ⟨.bl _, H, I, rfl, p.flat sb (.bool _) rfl⟩
  case h_20 xs =>
    obtain ⟨hc, p⟩ := p.guard
    obtain ⟨as, r1⟩ := Dp.reads I x v v' (hx.dp sb) rv
    obtain ⟨bs, r2⟩ := Dp.reads I _ u u' (hy.dp sb) ru
    have hl := hy.lay
    rw [PyData.canLay0] at hl
    exact SeqAt.notIn_list_reads r2 r1 hl hx.lay (okDep_room2 hc hr) ⟨.bl _, H, I, rfl, p.flat sb (.bool _) rfl⟩
  case h_21 a b =>
    cases hx.str_inv; cases hy.str_inv
    exact op_in_str pins s σ H _ _ _ _ Q I rv ru ⟨a, b, rfl, rfl, p.flat sb (.bool _) rfl⟩
  case h_22 a b =>
    cases hx.str_inv; cases hy.str_inv
    exact op_notIn_str pins s σ H _ _ _ _ Q I rv ru ⟨a, b, rfl, rfl, p.flat sb (.bool _) rfl⟩
  case h_23 => exact p.elim
end
end DL

/-! DSort: sorted of alike data, tuples without items among them too. -/
namespace DL
open PySem PySem.Spec PyProof.Rows PySem.W PySem.SeqAt PySem.Calls
section
variable {prog : Program} {w : World} {A : Around} {E : Value → Shared → Prop} {s : Shared}
theorem call_tuple_lt {Q : Value → Shared → Prop} {l b : Addr} {items items2 : Array Value} {e r : Nat → Bool} (hl : s.heap.IsTuple l items) (hb : s.heap.IsTuple b items2)
    (he : ∀ j (h1 : j < items.size) (h2 : j < items2.size), EqAt A.in1 s items[j] items2[j] (e j)) (hr : ∀ j (h1 : j < items.size) (h2 : j < items2.size), e j = false → RcLt A.in1 s items[j] items2[j] (r j))
    (h : Q (.bool (firstLt e r (decide (items.size < items2.size)) (List.range (min items.size items2.size)))) s) : wpAny (model prog w) A (call (.builtin "tuple.__lt__") [.ref l, .ref b]) Q E s := by
  obtain ⟨⟨cls, dd, data, sl⟩, ho, hc, n, hd⟩ := id hl
  obtain ⟨⟨cls2, dd2, data2, sl2⟩, ho2, hc2, n2, hd2⟩ := id hb
  simp only at hc hd hc2 hd2
  subst hc hd hc2 hd2
  exact call_meets PySem.F.slot_tuple_lt ⟨_, ho, rfl⟩ PySem.F.entry_tuple_lt (PySem.F.args_tuple_lt_2 _ _) (SeqAt.tuple_ltAt l b items items2 n n2 dd dd2 sl sl2 e r) ⟨ho, ho2, he, hr, h⟩
theorem oneLt_tup {xs ys : List PyData} {a b : Value} {as bs : List Addr} {Q : Bool → Shared → Prop} (ra : Reads s.heap a (.tuple xs) as) (rb : Reads s.heap b (.tuple ys) bs) (h : alike (.tuple xs) (.tuple ys) = true)
    (hu : A.units + min (PyData.depth (.tuple xs)) (PyData.depth (.tuple ys)) < cLine) (hq : Q (dataLt (.tuple xs) (.tuple ys)) s) : wpAny (model prog w) A (oneLt' true a b) Q E s := by
  have hal : alikeAll xs ys = true := by simpa [alike] using h
  cases ra with
  | @tuple l o vs n _ as₁ h1 h2 h3 h4 =>
    cases rb with
    | @tuple l' o' vs' n' _ bs₁ k1 k2 k3 k4 =>
      have n1 : vs.size = xs.length := by simpa using ReadsAll.length _ _ _ h4
      have n2 : vs'.size = ys.length := by simpa using ReadsAll.length _ _ _ k4
      rw [dataLt_tuple, ← firstLt_toks xs ys hal, ← n1, ← n2] at hq
      rw [oneLt'_eq]
      simp only [if_true]
      refine wpAny_bind (wpAny_cRoomFor (room_here hu) ?_)
      refine wpAny_bind (wpAny_callSpecialIfBound?_slot (T := "tuple") ⟨_, h1, h2⟩ PySem.F.slot_tuple_lt (call_tuple_lt (e := pairEq xs ys) (r := fun j => dataLt (xs.getD j .none) (ys.getD j .none)) ⟨_, h1, h2, _, h3⟩ ⟨_, k1, k2, _, k3⟩ (fun j j1 j2 => ?_) (fun j j1 j2 hj => ?_) ?_))
      · have := eqAt_alikeAll xs ys A.in1 s vs.toList vs'.toList _ _ h4 k4 hal (room_in hu) j (by simpa using j1) (by simpa using j2)
        simpa using this
      · have := rcLt_alikeAll xs ys A.in1 s vs.toList vs'.toList _ _ h4 k4 hal (room_in hu) j (by simpa using j1) (by simpa using j2) hj
        simpa using this
      · exact wpAny_truthy_bool hq
/-- the first items, where there are such -/
def OptTups (h : Heap) : List Value → List (Option Value) → Prop
  | [], [] => True
  | v :: vs, f :: fs => (∃ a o xs n, v = .ref a ∧ h.get? a = some o ∧ o.cls = .type "tuple" ∧ o.data = .seq xs n ∧ xs[0]? = f) ∧ OptTups h vs fs
  | _, _ => False
theorem opt_firsts {M : Model} : ∀ (vs : List Value) (fs : List (Option Value)) {Q : List (Option Value) → Shared → Prop}, OptTups s.heap vs fs → Q fs s → wpAny M A (vs.mapM firstOfTuple') Q E s
  | [], [], _, _, h => by rw [List.mapM_nil]; exact wpAny_pure h
  | [], _ :: _, _, t, _ => t.elim
  | _ :: _, [], _, t, _ => t.elim
  | v :: vs, f :: fs, Q, t, h => by
    obtain ⟨⟨a, o, xs, n, rfl, ho, hc, hd, hf⟩, t⟩ := t
    rw [List.mapM_cons]
    refine wpAny_bind ?_
    rw [kas_first_eq]
    refine wpAny_bind (Looks.here (show Looks M s.heap (typeOf (.ref a)) o.cls from (Looks.ld ho).andThen .now) ?_)
    rw [hc, if_neg (by first | decide | simp)]
    refine wpAny_bind (listItems_at ho hd (wpAny_pure ?_))
    rw [hf]
    exact wpAny_bind (opt_firsts vs fs (Q := fun bs s' => wpAny M A (pure (f :: bs)) Q E s') t (wpAny_pure h))
def tupNE : PyData → Bool
  | .tuple (_ :: _) => true
  | _ => false
theorem opt_of {h : Heap} : ∀ {vs : List Value} {ds : List PyData}, EachIs (fun v d => ∃ as, Reads h v d as) vs ds → (∀ d, d ∈ ds → ∃ xs, d = .tuple xs) → ∃ fs, OptTups h vs fs ∧ fs.length = vs.length ∧ (∀ i : Nat, (fs[i]?.map Option.isSome) = ds[i]?.map tupNE)
  | _, _, .nil, _ => ⟨[], trivial, rfl, fun i => by simp⟩
  | _, _, .cons (b := d) ⟨as, r⟩ t, ht => by
    obtain ⟨fs, h1, h2, h3⟩ := opt_of t fun d hd => ht d (List.mem_cons_of_mem _ hd)
    obtain ⟨xs, rfl⟩ := ht d (List.mem_cons_self ..)
    cases r with
    | @tuple a o its n _ _ ho hc hd hr =>
      refine ⟨its[0]? :: fs, ⟨⟨a, o, its, n, rfl, ho, hc, hd, rfl⟩, h1⟩, by rw [List.length_cons, List.length_cons, h2], fun i => ?_⟩
      cases i with
      | succ i => simpa using h3 i
      | zero =>
        have e := ReadsAll.length _ _ _ hr
        cases xs with
        | nil =>
          have z : its.size = 0 := by simpa using e
          have z2 : its[0]? = none := by rw [Array.getElem?_eq_none (by omega)]
          simp [z2, tupNE]
        | cons x r =>
          have z : its.size = r.length + 1 := by simpa using e
          have z2 : (its[0]?).isSome = true := by rw [Array.getElem?_eq_getElem (by omega)]; rfl
          simp [z2, tupNE]
/-- alike data, none None, can be sorted -/
theorem sortsAt {vs : List Value} {ds : List PyData} (e : EachIs (fun v d => ∃ as, Reads s.heap v d as) vs ds) (hal : AllAlike ds) (hn : ∀ d, d ∈ ds → d ≠ .none) (hu : ∀ d, d ∈ ds → A.units + d.depth < cLine) : SortsAt prog w A s (dataKind s.heap ds) vs := by
  have room : ∀ {d d' : PyData}, d ∈ ds → A.units + min d.depth d'.depth < cLine := fun {d d'} hd => Nat.lt_of_le_of_lt (Nat.add_le_add_left (Nat.min_le_left _ _) _) (hu d hd)
  by_cases ht : ∃ d ∈ ds, ∃ xs, d = .tuple xs
  · have all : ∀ d, d ∈ ds → ∃ xs, d = .tuple xs := fun d hd => by
      obtain ⟨d0, h0, xs, rfl⟩ := ht
      have q := hal d hd _ h0
      cases d <;> first | exact ⟨_, rfl⟩ | exact absurd q (by simp [alike])
    by_cases hne : ∀ d, d ∈ ds → ∃ x r, d = .tuple (x :: r)
    · exact SortsAt.data e hal (.inl hne) hu
    · refine ⟨fun v hv => ?_, ?_⟩
      · obtain ⟨d, hd, as, r⟩ := e.left v hv
        exact ⟨_, dataKind_some hal hd r⟩
      · obtain ⟨fs, t1, t2, t3⟩ := opt_of e all
        have some_none : (fs.toArray.all fun x => x.isSome) = false := by
          cases q : (fs.toArray.all fun x => x.isSome) with
          | false => rfl
          | true =>
            exfalso
            refine hne fun d hd => ?_
            obtain ⟨i, hi, hi2⟩ := List.mem_iff_getElem.mp hd
            have e1 : ds[i]? = some d := by rw [List.getElem?_eq_getElem hi, hi2]
            have e3 := t3 i
            rw [e1] at e3
            cases q2 : fs[i]? with
            | none => rw [q2] at e3; cases e3
            | some f =>
              rw [q2] at e3
              have hf : f ∈ fs := List.mem_of_getElem? q2
              have q3 : ∀ x ∈ fs, x.isSome = true := by simpa using q
              have e4 : f.isSome = _ := Option.some.inj e3
              rw [q3 f hf] at e4
              obtain ⟨xs, rfl⟩ := all d hd
              cases xs with
              | nil => cases e4
              | cons x r => exact ⟨x, r, rfl⟩
        have typ : ∀ v ∈ vs, Looks (model prog w) s.heap (typeOf v) (.type "tuple") := fun v hv => by
          obtain ⟨d, hd, as, r⟩ := e.left v hv
          obtain ⟨xs, rfl⟩ := all d hd
          exact looks_reads r
        by_cases hf0 : (fs[0]?.bind id).isSome = true
        · refine ⟨general', ?_, fun h2 E Q hq => ?_⟩
          · intro E x y a b Q ha hb hq
            obtain ⟨d, as, hd, ra, rfl⟩ := dataKind_inv ha
            obtain ⟨d', as', hd', rb, rfl⟩ := dataKind_inv hb
            show wpAny (model prog w) A (oneLt' false x y) Q E s
            exact oneLt_alike (fun z => by cases z) ra rb (hal d hd d' hd') (hn d hd) (room hd) hq
          · rw [kat_kind_eq, List.mapM_toArray, map_eq_pure_bind]
            refine wpAny_bind (wpAny_bind (opt_firsts vs fs t1 (wpAny_pure ?_)))
            rw [if_neg (by rw [some_none]; decide), if_pos (by simpa using hf0)]
            exact wpAny_pure hq
        · refine ⟨oneType', ?_, fun h2 E Q hq => ?_⟩
          · intro E x y a b Q ha hb hq
            obtain ⟨d, as, hd, ra, rfl⟩ := dataKind_inv ha
            obtain ⟨d', as', hd', rb, rfl⟩ := dataKind_inv hb
            obtain ⟨xs, rfl⟩ := all d hd
            obtain ⟨ys, rfl⟩ := all d' hd'
            rw [keyLt'_oneType]
            exact oneLt_tup ra rb (hal _ hd _ hd') (room hd) hq
          · rw [kat_kind_eq, List.mapM_toArray, map_eq_pure_bind]
            refine wpAny_bind (wpAny_bind (opt_firsts vs fs t1 (wpAny_pure ?_)))
            rw [if_neg (by rw [some_none]; decide), if_neg (by simpa using hf0)]
            rw [oneTypeOnly'_eq, List.mapM_toArray, map_eq_pure_bind]
            refine wpAny_bind (wpAny_bind (wpAny_bind (kas_mapM (r := Value.type "tuple") _ (fun v hv Q' hq => (typ v hv).here hq) (wpAny_pure ?_))))
            obtain ⟨v₁, rest, rfl⟩ : ∃ v₁ rest, vs = v₁ :: rest := by
              match vs, h2 with
              | v₁ :: rest, _ => exact ⟨v₁, rest, rfl⟩
            have hall : ((List.map (fun _ => Value.type "tuple") (v₁ :: rest)).toArray.all fun x => x == Value.type "tuple") = true := by
              simp only [List.all_toArray, List.all_map, List.all_eq_true]
              intro _ _
              rfl
            have h0 : (List.map (fun _ => Value.type "tuple") (v₁ :: rest)).toArray[0]? = some (Value.type "tuple") := by simp
            rw [h0]
            simp only [hall, if_true]
            exact wpAny_pure (wpAny_pure hq)
  · exact SortsAt.data e hal (.inr fun d hd => ⟨hn d hd, fun xs e => ht ⟨d, hd, xs, e⟩⟩) hu
/-- sorted(xs) -/
theorem sorted_dat {β : Type} {vs : List Value} {bs : List β} {enc : β → PyData} {R : Value → β → Prop} {l : Addr} {Q : Value → Shared → Prop} (hl : s.heap.IsList l vs.toArray) (e : EachIs R vs bs) (er : EachIs (fun v b => ∃ as, Reads s.heap v (enc b) as) vs bs) (hal : AllAlike (bs.map enc)) (hn : ∀ d, d ∈ bs.map enc → d ≠ .none) (hL : bs.length ≤ sizeLine)
    (hu : ∀ b, b ∈ bs → A.units + 2 + (enc b).depth < cLine) (h : ∀ out, out.length = bs.length → EachIs R out (bs.mergeSort (dataLe false enc)) → Q (.ref (s.heap.objs.size + 1)) { s with heap := sortedAll s.heap vs (List.toArray out) }) :
    wpAny (model prog w) A (call (.builtin "sorted") [.ref l]) Q E s := by
  have er' : EachIs (fun v b => ∃ as, Reads (sortingHeap (copyHeap s.heap vs) (s.heap.objs.size + 1) vs) v (enc b) as) vs bs := er.mono fun _ _ ⟨as, r⟩ => ⟨as, PyProof.Rows.Reads.keeps (fun _ _ => sorting_copy_old) r⟩
  exact sorted_vals hl (sortsAt (s := { s with heap := sortingHeap (copyHeap s.heap vs) (s.heap.objs.size + 1) vs }) (each_map (R := fun v d => ∃ as, Reads (sortingHeap (copyHeap s.heap vs) (s.heap.objs.size + 1) vs) v d as) enc er') hal hn (bound_map hu)) (by rw [e.length]; exact hL)
    (h _ (by rw [sortVals_length false rfl]; exact e.length) (sortVals_data false e er' hal))
end
end DL

/-! DBlt: subscripts, slices, isinstance, built-in functions by values. -/
namespace DL
open PySem PySem.Spec PyProof.Rows L2
inductive BVs (K : Fg) (F H : Hp) : List V → List D → Prop
  | nil : BVs K F H [] []
  | cons {v : V} {d : D} {vs : List V} {ds : List D} : BV K F H v d → BVs K F H vs ds → BVs K F H (v :: vs) (d :: ds)
section
variable {K : Fg} {F F' H H' H0 F0 : Hp} {v w u : V} {d x y : D} {vs : List V} {ds : List D} {a : Addr} {Q : VK} {k : Nat}
theorem BVs.one (h : BVs K F H vs [d]) : ∃ v, vs = [v] ∧ BV K F H v d := by
  cases h with
  | cons h t => cases t; exact ⟨_, rfl, h⟩
theorem BVs.two (h : BVs K F H vs [d, x]) : ∃ v u, vs = [v, u] ∧ BV K F H v d ∧ BV K F H u x := by
  cases h with
  | cons h t =>
    cases t with
    | cons h2 t => cases t; exact ⟨_, _, rfl, h, h2⟩
theorem BVs.length (h : BVs K F H vs ds) : vs.length = ds.length := by
  induction h with
  | nil => rfl
  | cons _ _ ih => rw [List.length_cons, List.length_cons, ih]
theorem DVs.ints : ∀ {vs : List V} {ds : List D} {ns : List Int}, DVs K F vs ds → intsD ds = some ns → vs = ns.map V.int
  | vs, [], ns, h, e => by
    rw [h.unnil]
    cases (show some [] = some ns from e)
    rfl
  | vs, d :: ds, ns, h, e => by
    obtain ⟨v, r, rfl, h1, h2⟩ := h.uncons
    unfold intsD at e
    split at e
    · rename_i h3; cases h3
    · rename_i i ds' h3
      cases h3
      cases q : intsD ds with
      | none => rw [q] at e; cases e
      | some ms =>
        rw [q] at e
        cases e
        rw [h1.int_inv, h2.ints q] <;> rfl
    · cases e
theorem DVs.strs : ∀ {vs : List V} {ds : List D} {ns : List Str}, DVs K F vs ds → strsD ds = some ns → vs = ns.map V.str
  | vs, [], ns, h, e => by
    rw [h.unnil]
    cases (show some [] = some ns from e)
    rfl
  | vs, d :: ds, ns, h, e => by
    obtain ⟨v, r, rfl, h1, h2⟩ := h.uncons
    unfold strsD at e
    split at e
    · rename_i h3; cases h3
    · rename_i i ds' h3
      cases h3
      cases q : strsD ds with
      | none => rw [q] at e; cases e
      | some ms =>
        rw [q] at e
        cases e
        rw [h1.str_inv, h2.strs q] <;> rfl
    · cases e
theorem DVs.of_strs : ∀ (ns : List Str), (ns.all PyData.strOk) = true → DVs K F (ns.map V.str) (ns.map .str)
  | [], _ => .nil
  | n :: ns, h => by
    rw [List.all_cons, Bool.and_eq_true] at h
    exact .cons ⟨.str n, by rw [PyData.canLay0]; exact h.1⟩ (DVs.of_strs ns h.2)
theorem DVs.bools : ∀ {vs : List V} {ds : List D} {ns : List Bool}, DVs K F vs ds → boolsD ds = some ns → vs = ns.map V.bl
  | vs, [], ns, h, e => by
    rw [h.unnil]
    cases (show some [] = some ns from e)
    rfl
  | vs, d :: ds, ns, h, e => by
    obtain ⟨v, r, rfl, h1, h2⟩ := h.uncons
    unfold boolsD at e
    split at e
    · rename_i h3; cases h3
    · rename_i i ds' h3
      cases h3
      cases q : boolsD ds with
      | none => rw [q] at e; cases e
      | some ms =>
        rw [q] at e
        cases e
        rw [h1.bool_inv, h2.bools q] <;> rfl
    · cases e
theorem DVs.of_pairs : ∀ {ps : List (V × D)}, (∀ p ∈ ps, DV K F p.1 p.2) → DVs K F (ps.map (·.1)) (ps.map (·.2))
  | [], _ => .nil
  | p :: ps, h => .cons (h p List.mem_cons_self) (DVs.of_pairs fun q hq => h q (List.mem_cons_of_mem _ hq))
theorem DVs.pairs : ∀ {vs : List V} {ds : List D}, DVs K F vs ds → ∃ ps : List (V × D), vs = ps.map (·.1) ∧ ds = ps.map (·.2) ∧ ∀ p ∈ ps, DV K F p.1 p.2
  | vs, [], h => ⟨[], h.unnil, rfl, fun p hp => by cases hp⟩
  | vs, d :: ds, h => by
    obtain ⟨v, r, rfl, h1, h2⟩ := h.uncons
    obtain ⟨ps, rfl, rfl, h3⟩ := h2.pairs
    refine ⟨(v, d) :: ps, rfl, rfl, fun p hp => ?_⟩
    rcases List.mem_cons.mp hp with e | hp
    · rw [e]; exact h1
    · exact h3 p hp
theorem max_one {ns : List Int} {n m : Int} (h : m ∈ n :: ns) (hle : ∀ y ∈ n :: ns, y ≤ m) : m = ns.foldl max n := by
  have up : ∀ (l : List Int) (a : Int), a ≤ l.foldl max a ∧ (∀ y ∈ l, y ≤ l.foldl max a) ∧ l.foldl max a ∈ a :: l := by
    intro l
    induction l with
    | nil => intro a; exact ⟨Int.le_refl _, (fun y hy => by cases hy), List.mem_cons_self⟩
    | cons b l ih =>
      intro a
      obtain ⟨i1, i2, i3⟩ := ih (max a b)
      refine ⟨Int.le_trans (by omega) i1, fun y hy => ?_, ?_⟩
      · rcases List.mem_cons.mp hy with e | hy
        · rw [e]; exact Int.le_trans (by omega) i1
        · exact i2 y hy
      · rcases List.mem_cons.mp i3 with e | e
        · show (max a b :: l).tail.foldl max (max a b) ∈ _
          rw [List.tail_cons, e]
          rcases (by omega : max a b = a ∨ max a b = b) with z | z
          · rw [z]; exact List.mem_cons_self
          · rw [z]; exact List.mem_cons_of_mem _ List.mem_cons_self
        · exact List.mem_cons_of_mem _ (List.mem_cons_of_mem _ e)
  obtain ⟨u1, u2, u3⟩ := up ns n
  have h1 := hle _ u3
  rcases List.mem_cons.mp h with e | e
  · rw [e] at h1 ⊢; omega
  · have := u2 m e; omega
end
section
variable {X : Cx}
theorem ixN_eq : DL.ixN = L2.ixN := rfl
theorem ix_D : IxR X (rD2 X.K 0 idxD) := by
  intro value slice pins s σ H v u v' u' Q I rv ru ⟨F, x, y, sb, hx, hy, p⟩ hs
  unfold idxD at p
  split at p
  · rename_i xs i
    obtain ⟨a, vs, rfl, h1, f1, t1⟩ := hx.tup_inv sb
    cases hy.int_inv
    cases q : (DL.ixN xs.length i).bind fun j => xs[j]? with
    | none => rw [q] at p; exact p.elim
    | some d =>
      rw [q] at p
      obtain ⟨j, hj, hd⟩ := Option.bind_eq_some_iff.mp q
      obtain ⟨w, hw, hv⟩ := t1.get hd
      exact ix_tup value slice pins s σ H _ _ _ _ Q I rv ru ⟨a, vs, i, w, rfl, rfl, h1, by unfold atI; rw [t1.length, ← ixN_eq, hj]; exact hw, p w F H (Grow.refl sb) (by unfold Res; rw [if_pos rfl]; exact hv)⟩ hs
  · rename_i xs i
    obtain ⟨a, vs, rfl, h1, t1⟩ := hx.lst_inv' sb
    cases hy.int_inv
    cases q : (DL.ixN xs.length i).bind fun j => xs[j]? with
    | none => rw [q] at p; exact p.elim
    | some d =>
      rw [q] at p
      obtain ⟨j, hj, hd⟩ := Option.bind_eq_some_iff.mp q
      obtain ⟨w, hw, hv⟩ := t1.get hd
      exact ix_list value slice pins s σ H _ _ _ _ Q I rv ru ⟨a, vs, i, w, rfl, rfl, h1, by unfold atI; rw [t1.length, ← ixN_eq, hj]; exact hw, p w F H (Grow.refl sb) (by unfold Res; rw [if_pos rfl]; exact hv)⟩ hs
  · exact p.elim
theorem sIx_eq (n d : Nat) (o : Option Int) : DL.sIx n d o = HT.sIx n d o := by
  cases o with
  | none => rfl
  | some v => rfl
theorem cut_DVs {K : Fg} {F : Hp} {vs : List V} {ds : List D} (h : DVs K F vs ds) (lo hi : Option Int) : DVs K F (cutV vs lo hi) (cut ds lo hi) := by
  unfold cutV cut
  rw [sIx_eq, sIx_eq, ← h.length]
  exact (h.drop _).take _
def rSlD (K : Fg) : V → Option Int → Option Int → Hp → VK → Prop := fun v lo hi H Q => ∃ F x, Sub F H ∧ BV K F H v x ∧ PostV K F H 1 (slcD x lo hi) Q
theorem sl_D : SlR X (rSlD X.K) := by
  intro pins s σ H v v' vl vu lo hi sl Q I rx hs pl pu ⟨F, x, sb, hx, p⟩
  unfold slcD at p
  split at p
  · rename_i xs
    obtain ⟨a, vs, rfl, h1, f1, t1⟩ := hx.tup_inv sb
    refine sl_tupA pins s σ H _ v' vl vu lo hi sl Q I rx hs pl pu ⟨a, vs, rfl, h1, fun z => ?_, fun _ q hq => p.newTup sb (cut_DVs t1 lo hi) hq⟩
    have e : cutV vs lo hi = vs := by unfold cutV; rw [z.1, z.2]; simp
    have t2 := cut_DVs t1 lo hi
    rw [e] at t2
    exact p.flat sb (.tup f1 t2) rfl
  · rename_i xs
    obtain ⟨a, vs, rfl, h1, t1⟩ := hx.lst_inv' sb
    exact sl_list pins s σ H _ v' vl vu lo hi sl Q I rx hs pl pu ⟨a, vs, rfl, h1, fun q hq => p.newLst sb (cut_DVs t1 lo hi) hq⟩
  · exact p.elim
/-! ### isinstance -/
def tyName : Ty → String
  | .int => "int" | .bool => "bool" | .str => "str" | .list => "list" | .tuple => "tuple"
def dName : D → String
  | .none => "NoneType" | .bool _ => "bool" | .int _ => "int" | .str _ => "str" | .list _ => "list" | .tuple _ => "tuple" | .dict _ => "dict"
theorem tyX_of {K : Fg} {F H : Hp} {v : V} {d : D} (h : BV K F H v d) (s : Sub F H) : TyX K H v (.type (dName d)) := by
  cases d with
  | none => rw [(h.dv rfl).none_inv]; exact .base .non
  | bool b => rw [h.bool_inv]; exact .base (.bl b)
  | int i => rw [h.int_inv]; exact .base (.int i)
  | str x => rw [h.str_inv]; exact .base (.str x)
  | tuple ds =>
    obtain ⟨a, xs, rfl, h1, _, _⟩ := h.tup_inv s
    rcases h1 with (h1 | ⟨o, h1⟩) | ⟨o, its, n, h1, h2, _⟩
    · exact .base (.tup h1)
    · exact .fTuple h1
    · exact .kTuple h1 h2
  | list ds =>
    obtain ⟨a, xs, rfl, h1, _⟩ := h.lst_inv' s
    rcases h1 with (h1 | ⟨o, h1⟩) | ⟨o, its, n, h1, h2, _⟩
    · exact .base (.lst h1)
    · exact .base (.frz h1)
    · exact .kList h1 h2
  | dict k =>
    rcases h with h | ⟨a, _, _, r⟩
    · exact h.no_dict.elim
    · exact r.elim
theorem isi_ok {K : Fg} (t : Ty) (d : D) (hd : ∀ k, d ≠ .dict k) : PySem.W.kitOne K (.type (dName d)) (.type (tyName t)) = some (tyD t d) := by
  cases t <;> cases d <;> first | (exact absurd rfl (hd _)) | exact kit_ty (by dsimp only [dName, tyName, tyD]; decide +kernel)
def rIsD (K : Fg) (t : Ty) : List V → Hp → VK → Prop := fun vs H Q => ∃ F x v, vs = [v, .ty (tyName t)] ∧ Sub F H ∧ BV K F H v x ∧ Q (.bl (tyD t x)) H
theorem call_isD (t : Ty) : CallR X (.builtin "isinstance") (rIsD X.K t) := by
  intro pins s σ H vs us Q I r ⟨F, x, v, e, sb, hx, q⟩
  refine call_isi pins s σ H vs us Q I r ⟨v, _, _, _, _, e, .ty _, tyX_of hx sb, isi_ok t x (fun k z => ?_), q⟩
  subst z
  rcases hx with h | ⟨a, _, _, r⟩
  · exact h.no_dict
  · exact r
/-! ### built-in functions -/
def rBD (K : Fg) (b : Blt) : List V → Hp → VK → Prop := fun vs H Q => ∃ F ds, Sub F H ∧ BVs K F H vs ds ∧ PostV K F H 1 (bltD b ds) Q
theorem items_inv {K : Fg} {F H : Hp} {v : V} {d : D} {xs : List D} (h : BV K F H v d) (s : Sub F H) (e : items d = some xs) :
    ∃ a vs, v = .ref a ∧ DVs K F vs xs ∧ ((d = .list xs ∧ SqL K H a vs) ∨ (d = .tuple xs ∧ SqT K H a vs ∧ SqT K F a vs)) := by
  cases d with
  | tuple ds =>
    cases (show some ds = some xs from e)
    obtain ⟨a, vs, rfl, h1, h2, t⟩ := h.tup_inv s
    exact ⟨a, vs, rfl, t, .inr ⟨rfl, h1, h2⟩⟩
  | list ds =>
    cases (show some ds = some xs from e)
    obtain ⟨a, vs, rfl, h1, t⟩ := h.lst_inv' s
    exact ⟨a, vs, rfl, t, .inl ⟨rfl, h1⟩⟩
  | _ => cases e
theorem b_len : CallR X (.builtin "len") (rBD X.K .len) := by
  intro pins s σ H vs us Q I r ⟨F, ds, sb, hv, p⟩
  rcases ds with _ | ⟨d, _ | ⟨e0, r0⟩⟩ <;> first | exact (show False from p).elim | skip
  obtain ⟨v, rfl, hx⟩ := hv.one
  have p : PostV X.K F H 1 (lenD d) Q := p
  unfold lenD at p
  split at p
  · obtain ⟨a, xs, rfl, h1, _, t⟩ := hx.tup_inv sb
    refine call_len_seq pins s σ H _ us Q I r ⟨a, xs, rfl, .inr h1, ?_⟩
    rw [t.length]; exact p.flat sb (.int _) rfl
  · obtain ⟨a, xs, rfl, h1, t⟩ := hx.lst_inv' sb
    refine call_len_seq pins s σ H _ us Q I r ⟨a, xs, rfl, .inl h1, ?_⟩
    rw [t.length]; exact p.flat sb (.int _) rfl
  · cases hx.str_inv
    obtain ⟨hz, p⟩ := p.iteP
    exact call_len_str pins s σ H _ us Q I r ⟨_, rfl, by rw [← line_eq]; exact hz, p.flat sb (.int _) rfl⟩
  · exact p.elim
theorem b_tuple : CallR X (.type "tuple") (rBD X.K .tuple) := by
  intro pins s σ H vs us Q I r ⟨F, ds, sb, hv, p⟩
  rcases ds with _ | ⟨d, _ | ⟨e0, r0⟩⟩ <;> first | exact (show False from p).elim | skip
  obtain ⟨v, rfl, hx⟩ := hv.one
  have p : PostV X.K F H 1 ((M.ofO (items d)).bind fun xs => .ok (.tuple xs)) Q := p
  cases e : items d with
  | none => rw [e] at p; exact p.elim
  | some xs =>
    rw [e] at p
    obtain ⟨a, ws, rfl, t, hc⟩ := items_inv hx sb e
    rcases hc with ⟨rfl, h1⟩ | ⟨rfl, h1, h2⟩
    · exact call_tuple_of pins s σ H _ us Q I r ⟨a, ws, rfl, .inl ⟨h1, fun q hq => PostV.newTup (k := 1) p sb t hq⟩⟩
    · exact call_tuple_of pins s σ H _ us Q I r ⟨a, ws, rfl, .inr ⟨h1, PostV.flat (k := 1) p sb (.tup h2 t) rfl⟩⟩
theorem b_list : CallR X (.type "list") (rBD X.K .list) := by
  intro pins s σ H vs us Q I r ⟨F, ds, sb, hv, p⟩
  rcases ds with _ | ⟨d, _ | ⟨e0, r0⟩⟩ <;> first | exact (show False from p).elim | skip
  obtain ⟨v, rfl, hx⟩ := hv.one
  have p : PostV X.K F H 1 ((M.ofO (items d)).bind fun xs => .ok (.list xs)) Q := p
  cases e : items d with
  | none => rw [e] at p; exact p.elim
  | some xs =>
    rw [e] at p
    obtain ⟨a, ws, rfl, t, hc⟩ := items_inv hx sb e
    refine call_list_of pins s σ H _ us Q I r ⟨a, ws, rfl, hc.elim (fun z => .inl z.2) (fun z => .inr z.2.1), fun q hq => PostV.newLst p sb t hq⟩
theorem okSort_of {xs : List D} (h : okSort xs = true) : PySem.W.AllAlike xs ∧ (∀ d ∈ xs, d ≠ .none) ∧ ∀ d ∈ xs, d.depth ≤ 64 := by
  unfold okSort at h
  rw [List.all_eq_true] at h
  have h' : ∀ d ∈ xs, notNone d = true ∧ d.depth ≤ 64 ∧ ∀ e ∈ xs, PySem.W.alike d e = true := fun d hd => by
    have q := h d hd
    rw [Bool.and_eq_true, Bool.and_eq_true, List.all_eq_true] at q
    exact ⟨q.1.1, of_decide_eq_true q.1.2, q.2⟩
  exact ⟨fun d hd e he => (h' d hd).2.2 e he, (fun d hd e => by subst e; cases (h' _ hd).1), fun d hd => (h' d hd).2.1⟩
theorem each_vals {K : Fg} {F : Hp} : ∀ {ps : List (V × D)} {us : List Value}, Vals (ps.map (·.1)) us → PySem.W.EachIs (fun v (b : V × D) => RelV b.1 v) us ps
  | [], _, .nil => .nil
  | p :: ps, _, .cons r t => .cons r (each_vals (K := K) (F := F) t)
theorem vals_each {us : List Value} {ps : List (V × D)} (h : PySem.W.EachIs (fun v (b : V × D) => RelV b.1 v) us ps) : Vals (ps.map (·.1)) us := by
  induction h with
  | nil => exact .nil
  | cons r _ ih => exact .cons r ih
theorem merge_snd (ps : List (V × D)) : (ps.mergeSort (PySem.W.dataLe false (·.2))).map (·.2) = (ps.map (·.2)).mergeSort leD := by
  refine List.map_mergeSort (fun a _ b _ => ?_)
  rfl
theorem b_sorted {k : Nat} (hr : Room k X.A) : CallR X (.builtin "sorted") (rBD X.K .sorted) := by
  intro pins s σ H vs us Q I r ⟨F, ds, sb, hv, p⟩
  obtain ⟨xs, rfl⟩ : ∃ xs, ds = [.list xs] := by
    rcases ds with _ | ⟨d, _ | ⟨e0, r0⟩⟩
    · exact (show False from p).elim
    · cases d <;> first | exact ⟨_, rfl⟩ | exact (show False from p).elim
    · cases d <;> first | exact (show False from p).elim | (cases r0 <;> exact (show False from p).elim)
  obtain ⟨v, rfl, hx⟩ := hv.one
  have p : PostV X.K F H 1 ((sortL xs).bind fun ys => .ok (.list ys)) Q := p
  unfold sortL at p
  cases ho : okSort xs with
  | false => rw [ho] at p; exact p.elim
  | true =>
    rw [ho] at p
    have p : PostV X.K F H 1 (.ok (.list (xs.mergeSort leD))) Q := p
    obtain ⟨h1, h2, h3⟩ := okSort_of ho
    obtain ⟨a, ws, rfl, hl, t⟩ := hx.lst_inv' sb
    obtain ⟨ps, rfl, rfl, hp⟩ := t.pairs
    rw [Vals.ref1 r]
    obtain ⟨its, rv, pl, hz⟩ := I.list hl
    have un := hr.un
    have e1 := each_vals (K := X.K) (F := F) rv
    have er : PySem.W.EachIs (fun v (b : V × D) => ∃ as, Reads s.heap v b.2 as) its ps := by
      refine PySem.W.EachIs.of_zip e1.length fun q hq => ?_
      have r1 := e1.zip q hq
      exact Dp.reads I q.2.2 q.2.1 q.1 ((hp q.2 (List.of_mem_zip hq).2).mono sb).dq.dp r1
    refine sorted_dat (bs := ps) (enc := (·.2)) pl.isList e1 er h1 h2 (by simpa using hz) (fun b hb => ?_) fun out hlen ho => ?_
    · have := h3 b.2 (List.mem_map.mpr ⟨b, hb, rfl⟩)
      omega
    · obtain ⟨ep, he'⟩ := PyProof.Rows.sortedAll_at s.heap its out.toArray
      have hlen2 : ((ps.mergeSort (PySem.W.dataLe false (·.2))).map (·.1)).length ≤ sizeLine := by
        rw [List.length_map, (List.mergeSort_perm ps _).length_eq]
        simpa using hz
      have t2 : DVs X.K F ((ps.mergeSort (PySem.W.dataLe false (·.2))).map (·.1)) ((ps.map (·.2)).mergeSort leD) := by
        rw [← merge_snd]
        exact DVs.of_pairs fun q hq => hp q ((List.mergeSort_perm ps _).mem_iff.mp hq)
      exact ⟨.ref _, upd H (s.heap.objs.size + 1) (.lst _), I.laid (t' := s.toks) (fun _ _ => PyProof.Rows.sortedAll_old) (Nat.le_succ _) ⟨hlen2, out, ep, vals_each ho, he'⟩, rfl, PostV.newLst p sb t2 (I.hok.fresh (Nat.le_succ _))⟩
theorem b_max (hc : X.calm = true) : CallR X (.builtin "max") (rBD X.K .max) := by
  intro pins s σ H vs us Q I r ⟨F, ds, sb, hv, p⟩
  obtain ⟨xs, rfl⟩ : ∃ xs, ds = [.list xs] := by
    rcases ds with _ | ⟨d, _ | ⟨e0, r0⟩⟩
    · exact (show False from p).elim
    · cases d <;> first | exact ⟨_, rfl⟩ | exact (show False from p).elim
    · cases d <;> first | exact (show False from p).elim | (cases r0 <;> exact (show False from p).elim)
  obtain ⟨v, rfl, hx⟩ := hv.one
  obtain ⟨a, ws, rfl, hl, t⟩ := hx.lst_inv' sb
  have p : PostV X.K F H 1 ((M.ofO (intsD xs)).bind fun ns => match ns with | [] => .bad | n :: r => .ok (.int (r.foldl max n))) Q := p
  cases e : intsD xs with
  | none => rw [e] at p; exact p.elim
  | some ns =>
    rw [e] at p
    cases ns with
    | nil => exact p.elim
    | cons n ns =>
      have e2 := t.ints e
      subst e2
      refine cr_max hc pins s σ H _ us Q I r ⟨a, n :: ns, rfl, hl, by simp, fun m hm hle => ?_⟩
      rw [max_one hm hle]
      exact PostV.flat (k := 1) p sb (.int _) rfl
theorem b_max2 (hc : X.calm = true) : CallR X (.builtin "max") (rBD X.K .max2) := by
  intro pins s σ H vs us Q I r ⟨F, ds, sb, hv, p⟩
  obtain ⟨i, j, rfl⟩ : ∃ i j, ds = [.int i, .int j] := by
    rcases ds with _ | ⟨d, _ | ⟨e, _ | ⟨e0, r0⟩⟩⟩
    · exact (show False from p).elim
    · cases d <;> exact (show False from p).elim
    · cases d <;> first | exact (show False from p).elim | (cases e <;> first | exact ⟨_, _, rfl⟩ | exact (show False from p).elim)
    · cases d <;> first | exact (show False from p).elim | (cases e <;> exact (show False from p).elim)
  obtain ⟨v, u, rfl, hx, hy⟩ := hv.two
  cases hx.int_inv; cases hy.int_inv
  exact call_max2 hc pins s σ H _ us Q I r ⟨i, j, rfl, p.flat sb (.int _) rfl⟩
theorem b_sum (hc : X.calm = true) : CallR X (.builtin "sum") (rBD X.K .sum) := by
  intro pins s σ H vs us Q I r ⟨F, ds, sb, hv, p⟩
  obtain ⟨xs, rfl⟩ : ∃ xs, ds = [.list xs] := by
    rcases ds with _ | ⟨d, _ | ⟨e0, r0⟩⟩
    · exact (show False from p).elim
    · cases d <;> first | exact ⟨_, rfl⟩ | exact (show False from p).elim
    · cases d <;> first | exact (show False from p).elim | (cases r0 <;> exact (show False from p).elim)
  obtain ⟨v, rfl, hx⟩ := hv.one
  obtain ⟨a, ws, rfl, hl, t⟩ := hx.lst_inv' sb
  have p : PostV X.K F H 1 ((M.ofO (intsD xs)).bind fun ns => .ok (.int ns.sum)) Q := p
  cases e : intsD xs with
  | none => rw [e] at p; exact p.elim
  | some ns =>
    rw [e] at p
    have e2 := t.ints e
    subst e2
    exact cr_sum hc pins s σ H _ us Q I r ⟨a, ns, rfl, hl, PostV.flat (k := 1) p sb (.int _) rfl⟩
theorem b_all (hc : X.calm = true) : CallR X (.builtin "all") (rBD X.K .all) := by
  intro pins s σ H vs us Q I r ⟨F, ds, sb, hv, p⟩
  obtain ⟨xs, rfl⟩ : ∃ xs, ds = [.list xs] := by
    rcases ds with _ | ⟨d, _ | ⟨e0, r0⟩⟩
    · exact (show False from p).elim
    · cases d <;> first | exact ⟨_, rfl⟩ | exact (show False from p).elim
    · cases d <;> first | exact (show False from p).elim | (cases r0 <;> exact (show False from p).elim)
  obtain ⟨v, rfl, hx⟩ := hv.one
  obtain ⟨a, ws, rfl, hl, t⟩ := hx.lst_inv' sb
  have p : PostV X.K F H 1 ((M.ofO (boolsD xs)).bind fun bs => .ok (.bool (bs.all id))) Q := p
  cases e : boolsD xs with
  | none => rw [e] at p; exact p.elim
  | some ns =>
    rw [e] at p
    have e2 := t.bools e
    subst e2
    exact cr_all hc pins s σ H _ us Q I r ⟨a, ns, rfl, hl, PostV.flat (k := 1) p sb (.bool _) rfl⟩
theorem b_abs : CallR X (.builtin "abs") (rBD X.K .abs) := by
  intro pins s σ H vs us Q I r ⟨F, ds, sb, hv, p⟩
  obtain ⟨i, rfl⟩ : ∃ i, ds = [.int i] := by
    rcases ds with _ | ⟨d, _ | ⟨e0, r0⟩⟩
    · exact (show False from p).elim
    · cases d <;> first | exact ⟨_, rfl⟩ | exact (show False from p).elim
    · cases d <;> first | exact (show False from p).elim | (cases r0 <;> exact (show False from p).elim)
  obtain ⟨v, rfl, hx⟩ := hv.one
  cases hx.int_inv
  exact call_abs pins s σ H _ us Q I r ⟨i, rfl, p.flat sb (.int _) rfl⟩
theorem b_int : CallR X (.type "int") (rBD X.K .int) := by
  intro pins s σ H vs us Q I r ⟨F, ds, sb, hv, p⟩
  obtain ⟨d, rfl⟩ : ∃ d, ds = [d] := by
    rcases ds with _ | ⟨d, _ | ⟨e0, r0⟩⟩
    · exact (show False from p).elim
    · exact ⟨_, rfl⟩
    · cases d <;> first | exact (show False from p).elim | (cases r0 <;> exact (show False from p).elim)
  obtain ⟨v, rfl, hx⟩ := hv.one
  cases d with
  | int i =>
    cases hx.int_inv
    exact call_int1 pins s σ H _ us Q I r (.inl ⟨i, rfl, PostV.flat (k := 1) p sb (.int _) rfl⟩)
  | bool i =>
    cases hx.bool_inv
    exact call_int1 pins s σ H _ us Q I r (.inr ⟨i, rfl, PostV.flat (k := 1) p sb (.int _) rfl⟩)
  | str x =>
    cases hx.str_inv
    simp only [bltD] at p
    obtain ⟨hl, p⟩ := p.iteP
    cases e : PySem.intText? x with
    | none => rw [e] at p; exact p.elim
    | some n =>
      rw [e] at p
      exact call_int_str pins s σ H _ us Q I r ⟨x, n, rfl, e, hl, PostV.flat (k := 1) p sb (.int _) rfl⟩
  | _ => exact (show False from p).elim
theorem b_str : CallR X (.type "str") (rBD X.K .str) := by
  intro pins s σ H vs us Q I r ⟨F, ds, sb, hv, p⟩
  obtain ⟨i, rfl⟩ : ∃ i, ds = [.int i] := by
    rcases ds with _ | ⟨d, _ | ⟨e0, r0⟩⟩
    · exact (show False from p).elim
    · cases d <;> first | exact ⟨_, rfl⟩ | exact (show False from p).elim
    · cases d <;> first | exact (show False from p).elim | (cases r0 <;> exact (show False from p).elim)
  obtain ⟨v, rfl, hx⟩ := hv.one
  cases hx.int_inv
  have p : PostV X.K F H 1 (if i.natAbs.log2 < 1920 ∧ PyData.strOk (Str.ofString (toString i)) = true then .ok (.str (Str.ofString (toString i))) else .bad) Q := p
  obtain ⟨hl, p⟩ := p.iteP
  exact call_str_int pins s σ H _ us Q I r ⟨i, rfl, hl.1, PostV.flat (k := 1) p sb ⟨.str _, by rw [PyData.canLay0]; exact hl.2⟩ rfl⟩
end
end DL

/-! DSet4: set(xs) of a list of ints; a tuple's items as a set, few unlike ones. -/
namespace DL
open PySem PySem.Spec PyProof.Rows L2
section
variable {P : Program} {w : World} {A : Around} {E : Value → Shared → Prop} {s : Shared}
set_option maxHeartbeats 3200000 in
theorem set_of_intL {l : Addr} {items : Array Value} (ns : List Int) {Q : Value → Shared → Prop} (hh : A.handled = none) (hl : s.heap.IsList l items) (hit : IntsAre items.toList ns) (hb : ns.length + 1 < scanBound)
    (h : ∀ (h' : Heap) (tk c : Nat), SetR w h' s.heap.objs.size (fun j => decide (j ∈ ns)) c → c ≤ ns.length → (∀ b o, s.heap.get? b = some o → h'.get? b = some o) → Q (.ref s.heap.objs.size) { s with heap := h', toks := tk }) :
    wpAny (model P w) A (call (.type "set") [.ref l]) Q E s := by
  have hisz : items.size = ns.length := by
    have q := IntsAre.length hit
    rw [Array.length_toList] at q
    exact q
  obtain ⟨c, tl, hmro⟩ := F.called_set.mro
  have hmade := F.called_set.made
  have hsub := F.called_set.sub
  refine wpAny_call (codeAny_of_tree ?_)
  show wpAny _ _ (callAny (.type "set") _) _ _ _
  refine wpAny_pure ⟨Code.quiet_builtin _ (by decide +kernel), codeAny_builtin F.entry_type_call ?_⟩
  rw [Around.under_plain (weight_type_call_type "set" [.ref l] []) rfl]
  have h1 := F.called_set.notType
  have h2 := F.called_set.canCreate
  have hct := F.typeCall_set_1 (.ref l)
  repeat (any_goals (first | assumption | wp_step))

  refine codeAny_mono (code_set_led1 (.ref l) (E := E) (Q₁ := fun obj s₁ => obj = .ref s.heap.objs.size ∧ s₁ = { s with heap := s.heap.push { cls := .type "set", dict := none, data := .set #[] 0 (.fresh 0 0 (!w.params.followText "set-order")) } }) ⟨rfl, rfl⟩) fun r s₁ hr => ?_
  cases r with
  | error e => exact hr
  | ok fl =>
    cases fl with
    | ret obj =>
      obtain ⟨rfl, rfl⟩ := hr
      have hS : (s.heap.push { cls := .type "set", dict := none, data := .set #[] 0 (.fresh 0 0 (!w.params.followText "set-order")) }).get? s.heap.objs.size = some { cls := .type "set", dict := none, data := .set #[] 0 (.fresh 0 0 (!w.params.followText "set-order")) } := Heap.get?_push_size _ rfl
      have hT : Shared.TypeIs { s with heap := s.heap.push { cls := .type "set", dict := none, data := .set #[] 0 (.fresh 0 0 (!w.params.followText "set-order")) } } (.ref s.heap.objs.size) "set" := ⟨_, hS, rfl⟩
      have hli := F.called_set.init.lookup
      have hbi := F.called_set.init.bind (.ref s.heap.objs.size)
      repeat (any_goals (first | assumption | wp_step))

      refine codeAny_mono (codeAny_call_builtin (R := wants (fun r s₂ => r = .none ∧ ∃ h' tk c, s₂ = { s with heap := h', toks := tk } ∧ SetR w h' s.heap.objs.size (fun j => decide (j ∈ ns)) c ∧ c ≤ ns.length ∧
          (∀ b o, s.heap.get? b = some o → h'.get? b = some o)) E) F.called_set.init.plain F.entry_set_init (check_set_init_1 hT ?_)) fun r₂ s₂ hr₂ => ?_
      · obtain ⟨ol, hol, hcl, nl, hdl⟩ := hl
        obtain ⟨ocls, odict, odata, oslots⟩ := ol
        simp only at hcl hdl
        subst hcl; subst hdl
        have hol' : (s.heap.push { cls := .type "set", dict := none, data := .set #[] 0 (.fresh 0 0 (!w.params.followText "set-order")) }).get? l = some { cls := .type "list", dict := odict, data := .seq items nl, slots := oslots } := Heap.get?_push_of_some _ hol
        have hsls := F.sub_list_set
        have hslf := F.sub_list_frozenset
        have hne : (Value.type "list" == Value.type "dict") = false := by decide
        have hl1 : (s.heap.push { cls := .type "set", dict := none, data := .set #[] 0 (.fresh 0 0 (!w.params.followText "set-order")) }).IsList l items := ⟨_, hol', rfl, nl, rfl⟩
        unfold Builtin.«set.__init__» noKeywords Builtin.Frozenset.updateFrom
        generalize hPI : pyIter = PI
        wp_walk
        subst hPI

        refine wpAny_pyIter_list hl1 ?_
        refine wpAny_bind (wpAny_runValue ?_)
        have hlS : l < s.heap.objs.size := Heap.lt_size hol
        have hh3 : A.in1.in1.in1.handled = none := by simp [hh]
        have hz1 : (s.heap.push { cls := .type "set", dict := none, data := .set #[] 0 (.fresh 0 0 (!w.params.followText "set-order")) }).objs.size = s.heap.objs.size + 1 := Heap.size_push ..
        have hneI : l ≠ (s.heap.push { cls := .type "set", dict := none, data := .set #[] 0 (.fresh 0 0 (!w.params.followText "set-order")) }).objs.size := by
          rw [Heap.size_push]; exact Nat.ne_of_lt (Nat.lt_succ_of_lt hlS)
        have hSf : s.heap.objs.size ∉ [(s.heap.push { cls := .type "set", dict := none, data := .set #[] 0 (.fresh 0 0 (!w.params.followText "set-order")) }).objs.size, l] := by
          rw [Heap.size_push]; simp only [List.mem_cons, List.mem_singleton, List.not_mem_nil, or_false, not_or]
          exact ⟨Nat.ne_of_lt (Nat.lt_succ_self _), Nat.ne_of_gt hlS⟩
        have hval : ∀ (i : Nat) (v : Value), items[i]? = some v → ∃ k t, ns[i]? = some k ∧ v = .int k t := fun i v hv => by
          have hi : i < ns.length := by rw [← hisz]; exact (Array.getElem?_eq_some_iff.mp hv).1
          obtain ⟨t, e⟩ := PyProof.Rows.IntsAre.int_at hit i v (by rw [Array.getElem?_toList]; exact hv)
          refine ⟨ns[i], t, List.getElem?_eq_getElem hi, ?_⟩
          rw [e, List.getD_eq_getElem?_getD, List.getElem?_eq_getElem hi] <;> rfl
        refine set_update_ints ((Walks.list hh3 _ l hneI items).toS) s.heap.objs.size
          hSf ns hisz hb hval (items.size - 0) 0 _ (by omega) (Nat.zero_le _)
          ⟨⟨_, Heap.get?_push_size _ rfl, rfl, rfl⟩, (hl1.push _)⟩ ?hS0 ?hR
        case hS0 =>
          have hget : ((s.heap.push { cls := .type "set", dict := none, data := .set #[] 0 (.fresh 0 0 (!w.params.followText "set-order")) }).push { cls := .type "list_iterator", data := .fields #[.ref l, .int 0 0] }).get? s.heap.objs.size
              = some { cls := .type "set", dict := none, data := .set #[] 0 (.fresh 0 0 (!w.params.followText "set-order")) } := Heap.get?_push_of_some _ hS
          exact ⟨0, Nat.le_refl 0, setR_new_at hget⟩
        case hR =>
          intro s' c' hm hc' hS'
          obtain ⟨h', g2, d', tk', os'⟩ := s'
          have eg : g2 = s.gens := hm.gens
          have ed : d' = s.drawn := hm.drawn
          have eo : os' = s.os := hm.os
          subst eg; subst ed; subst eo
          show wpAny _ _ _ _ _ _
          refine wpAny_pure ?_
          show wpAny _ _ (ret Value.none) _ _ _
          rw [hisz] at hc'
          refine wpAny_pure ⟨rfl, h', tk', c', rfl, hS', hc', fun b o e => ?_⟩
          have hb0 : b < s.heap.objs.size := Heap.lt_size e
          have hb1 : b ≠ s.heap.objs.size := Nat.ne_of_lt hb0
          have hb2 : b ≠ (s.heap.push { cls := .type "set", dict := none, data := .set #[] 0 (.fresh 0 0 (!w.params.followText "set-order")) }).objs.size := by
            rw [Heap.size_push]; exact Nat.ne_of_lt (Nat.lt_succ_of_lt hb0)
          exact hm.heap b o (by simp only [List.mem_cons, List.mem_singleton, List.not_mem_nil, or_false, not_or]; exact ⟨hb1, hb2⟩) (Heap.get?_push_of_some _ (Heap.get?_push_of_some _ e))

      · cases r₂ with
        | error e => exact hr₂
        | ok fl₂ =>
          cases fl₂ with
          | ret r =>
            obtain ⟨rfl, h', tk, c', rfl, hS', hc', hk'⟩ := hr₂
            repeat (any_goals (first | assumption | wp_step))
            exact h _ _ _ hS' hc' hk'
          | _ => exact hr₂.elim
    | _ => exact hr.elim

set_option maxHeartbeats 3200000 in
theorem set_update_few {I : Addr} {fp wr : List Addr} {G : Array GenState → Array GenState → Prop} {n : Nat} {Pv : Nat → Value → Prop} {St : Nat → Shared → Prop} {R : Result → Shared → Prop}
    (W : WalksS P w A.in1 I fp wr G n Pv St) (S : Addr) (hSf : S ∉ fp) (ks : List (Addr × List Int)) (hn : n = ks.length) (hfew : ∀ L : List (Addr × List Int), (L.map (·.2)).Nodup → (∀ p ∈ L, p ∈ ks) → L.length < 63) (hval : ∀ i v, Pv i v → ∃ p, ks[i]? = some p ∧ v = .ref p.1)
    (h0 : Heap) (hk : ∀ p ∈ ks, IsT P w h0 p.2 p.1) (hS0 : h0.get? S = none) (hw0 : ∀ b ∈ wr, h0.get? b = none) (hu : A.in1.units < cLine) :
    ∀ (k i : Nat) (s : Shared), n - i = k → i ≤ n → St i s → (∀ b o, h0.get? b = some o → s.heap.get? b = some o) → (∃ L es ep t, SetTR P w s.heap S L es ep t ∧ Got ks i L) →
      (∀ s' L es ep t, Moved (S :: wr) G s s' → SetTR P w s'.heap S L es ep t → Got ks n L → (∀ b o, h0.get? b = some o → s'.heap.get? b = some o) → R (.ok (.ret .none)) s') →
      codeAny (model P w) A (.builtin "set.update.loop" ⟨[.ref S, .ref I], []⟩) R s := by
  have hSw : S ∉ wr := fun h => hSf (W.sub _ h)
  have hsub : ∀ b ∈ wr, b ∈ S :: wr := fun b hb => List.mem_cons_of_mem _ hb
  have keepM : ∀ {s s' : Shared}, Moved wr G s s' → (∀ b o, h0.get? b = some o → s.heap.get? b = some o) → ∀ b o, h0.get? b = some o → s'.heap.get? b = some o := fun hm hkp b o e =>
    hm.heap b o (fun hb => by rw [hw0 b hb] at e; cases e) (hkp b o e)
  intro k
  induction k with
  | zero =>
    intro i s hk' hi hst hkp ⟨L, es, ep, t, hS, g⟩ hR
    have hin : i = n := by omega
    subst hin
    refine codeAny_builtin F.entry_set_update_loop ?_
    rw [Around.under_plainId F.plain_set_update_loop _]
    show wpAny _ A.in1 (pyNext (.ref I) >>= _) _ _ s
    refine wpAny_bind (W.done s _ _ hst fun s' hm => ?_)
    show wpAny _ A.in1 (ret Value.none) _ _ s'
    have hkp' := keepM hm hkp
    have sub : ∀ p ∈ L, p ∈ ks := fun p hp => List.mem_of_mem_take (g.sub p hp)
    exact wpAny_pure (hR s' L es ep t (hm.mono hsub) (hS.keep (fun o e => hm.heap S o hSw e) fun p hp => isT_keep (hk p (sub p hp)) hkp') g hkp')
  | succ k ih =>
    intro i s hk' hi hst hkp ⟨L, es, ep, t, hS, g⟩ hR
    have hlt : i < n := by omega
    refine codeAny_builtin F.entry_set_update_loop ?_
    rw [Around.under_plainId F.plain_set_update_loop _]
    show wpAny _ A.in1 (pyNext (.ref I) >>= _) _ _ s
    refine wpAny_bind (W.item i s _ _ hlt hst fun v s' hP hst' hm => ?_)
    obtain ⟨p, hp, rfl⟩ := hval i v hP
    have hkp' := keepM hm hkp
    have sub : ∀ p ∈ L, p ∈ ks := fun p hp => List.mem_of_mem_take (g.sub p hp)
    have hS' : SetTR P w s'.heap S L es ep t := hS.keep (fun o e => hm.heap S o hSw e) fun q hq => isT_keep (hk q (sub q hq)) hkp'
    have hx : IsT P w s'.heap p.2 p.1 := isT_keep (hk p (List.mem_of_getElem? hp)) hkp'
    show wpAny _ A.in1 (holding [Value.ref p.1] (setAdd S (.ref p.1)) >>= _) _ _ s'
    refine wpAny_bind (wpAny_holding ?_)
    unfold setAdd
    refine wpAny_holding ?_
    refine wpAny_bind (wpAny_pyHash_tuple hu hx ?_)
    refine add_at (s := { s' with toks := s'.toks + (p.2.length + 1) }) hS' hx hu (by have := hfew L hS'.nd sub; omega) fun b h' L' es' ep' t' hsb hS2 c1 c2 => ?_
    have g' : Got ks (i + 1) L' := by
      rcases Classical.em (p.2 ∈ L.map (·.2)) with c | c
      · rw [c1 c]; exact g.same hp c
      · exact g.more hp (c2 c)
    have hkp2 : ∀ b o, h0.get? b = some o → h'.get? b = some o := fun b o e => (hsb.2 b (fun z => by rw [z, hS0] at e; cases e)).trans (hkp' b o e)
    refine wpAny_pure ⟨plainId_quiet F.plain_set_update_loop _, ih (i + 1) _ (by omega) hlt (W.frame _ s' _ _ hst' (Nat.le_add_right _ _) fun b hb o e => ?_) hkp2 ⟨L', es', ep', t', hS2, g'⟩ fun s'' L2 es2 ep2 t2 hm'' hS'' g'' hkp'' => ?_⟩
    · rw [hsb.2 b (fun h : b = S => hSf (by rw [← h]; exact hb))]; exact e
    · refine hR s'' L2 es2 ep2 t2 (Moved.trans W.gtrans ((hm.mono hsub).then_heap (Nat.le_add_right _ _) fun b o hb e => ?_) hm'') hS'' g'' hkp''
      rw [hsb.2 b (fun h : b = S => hb (by rw [h]; exact List.mem_cons_self))]; exact e

set_option maxHeartbeats 3200000 in
/-- the set of a tuple's items -/
theorem set_of_few {l : Addr} {items : Array Value} (ks : List (Addr × List Int)) {Q : Value → Shared → Prop} (hh : A.handled = none) (ht : s.heap.IsTuple l items) (hit : items.toList = ks.map fun p => Value.ref p.1)
    (hk : ∀ p ∈ ks, IsT P w s.heap p.2 p.1) (hfew : ∀ L : List (Addr × List Int), (L.map (·.2)).Nodup → (∀ p ∈ L, p ∈ ks) → L.length < 63) (hu : A.units + 3 < cLine)
    (h : ∀ (h' : Heap) (tk : Nat) L es ep t, SetTR P w h' s.heap.objs.size L es ep t → Got ks ks.length L → (∀ b o, s.heap.get? b = some o → h'.get? b = some o) → Q (.ref s.heap.objs.size) { s with heap := h', toks := tk }) :
    wpAny (model P w) A (call (.type "set") [.ref l]) Q E s := by
  have hisz : items.size = ks.length := by simpa using congrArg List.length hit
  obtain ⟨c, tl, hmro⟩ := F.called_set.mro
  have hmade := F.called_set.made
  have hsub := F.called_set.sub
  refine wpAny_call (codeAny_of_tree ?_)
  show wpAny _ _ (callAny (.type "set") _) _ _ _
  refine wpAny_pure ⟨Code.quiet_builtin _ (by decide +kernel), codeAny_builtin F.entry_type_call ?_⟩
  rw [Around.under_plain (weight_type_call_type "set" [.ref l] []) rfl]
  have h1 := F.called_set.notType
  have h2 := F.called_set.canCreate
  have hct := F.typeCall_set_1 (.ref l)
  repeat (any_goals (first | assumption | wp_step))
  refine codeAny_mono (code_set_led1 (.ref l) (E := E) (Q₁ := fun obj s₁ => obj = .ref s.heap.objs.size ∧ s₁ = { s with heap := s.heap.push { cls := .type "set", dict := none, data := .set #[] 0 (.fresh 0 0 (!w.params.followText "set-order")) } }) ⟨rfl, rfl⟩) fun r s₁ hr => ?_
  cases r with
  | error e => exact hr
  | ok fl =>
    cases fl with
    | ret obj =>
      obtain ⟨rfl, rfl⟩ := hr
      have hS : (s.heap.push { cls := .type "set", dict := none, data := .set #[] 0 (.fresh 0 0 (!w.params.followText "set-order")) }).get? s.heap.objs.size = some { cls := .type "set", dict := none, data := .set #[] 0 (.fresh 0 0 (!w.params.followText "set-order")) } := Heap.get?_push_size _ rfl
      have hT : Shared.TypeIs { s with heap := s.heap.push { cls := .type "set", dict := none, data := .set #[] 0 (.fresh 0 0 (!w.params.followText "set-order")) } } (.ref s.heap.objs.size) "set" := ⟨_, hS, rfl⟩
      have hli := F.called_set.init.lookup
      have hbi := F.called_set.init.bind (.ref s.heap.objs.size)
      repeat (any_goals (first | assumption | wp_step))
      refine codeAny_mono (codeAny_call_builtin (R := wants (fun r s₂ => r = .none ∧ ∃ h' tk L es ep t, s₂ = { s with heap := h', toks := tk } ∧ SetTR P w h' s.heap.objs.size L es ep t ∧ Got ks ks.length L ∧
          (∀ b o, s.heap.get? b = some o → h'.get? b = some o)) E) F.called_set.init.plain F.entry_set_init (check_set_init_1 hT ?_)) fun r₂ s₂ hr₂ => ?_
      · obtain ⟨ol, hol, hcl, nl, hdl⟩ := ht
        obtain ⟨ocls, odict, odata, oslots⟩ := ol
        simp only at hcl hdl
        subst hcl; subst hdl
        have hol' : (s.heap.push { cls := .type "set", dict := none, data := .set #[] 0 (.fresh 0 0 (!w.params.followText "set-order")) }).get? l = some { cls := .type "tuple", dict := odict, data := .seq items nl, slots := oslots } := Heap.get?_push_of_some _ hol
        have hsls := F.sub_tuple_set
        have hslf := F.sub_tuple_frozenset
        have hne : (Value.type "tuple" == Value.type "dict") = false := by decide
        have hl1 : (s.heap.push { cls := .type "set", dict := none, data := .set #[] 0 (.fresh 0 0 (!w.params.followText "set-order")) }).IsTuple l items := ⟨_, hol', rfl, nl, rfl⟩
        unfold Builtin.«set.__init__» noKeywords Builtin.Frozenset.updateFrom
        generalize hPI : pyIter = PI
        wp_walk
        subst hPI
        refine wpAny_pyIter_tuple hl1 ?_
        refine wpAny_bind (wpAny_runValue ?_)
        have hlS : l < s.heap.objs.size := Heap.lt_size hol
        have hh3 : A.in1.in1.in1.handled = none := by simp [hh]
        have hneI : l ≠ (s.heap.push { cls := .type "set", dict := none, data := .set #[] 0 (.fresh 0 0 (!w.params.followText "set-order")) }).objs.size := by
          rw [Heap.size_push]; exact Nat.ne_of_lt (Nat.lt_succ_of_lt hlS)
        have hSf : s.heap.objs.size ∉ [(s.heap.push { cls := .type "set", dict := none, data := .set #[] 0 (.fresh 0 0 (!w.params.followText "set-order")) }).objs.size, l] := by
          rw [Heap.size_push]
          intro z
          rcases List.mem_cons.mp z with z | z
          · omega
          · exact Nat.ne_of_gt hlS (List.mem_singleton.mp z)
        have hval : ∀ (i : Nat) (v : Value), items[i]? = some v → ∃ p, ks[i]? = some p ∧ v = .ref p.1 := fun i v hv => by
          rw [← Array.getElem?_toList, hit, List.getElem?_map, Option.map_eq_some_iff] at hv
          obtain ⟨p, h1, h2⟩ := hv
          exact ⟨p, h1, h2.symm⟩
        have none_of : ∀ b, s.heap.objs.size ≤ b → s.heap.get? b = none := fun b hb => by
          cases q : s.heap.get? b with
          | none => rfl
          | some o => exact absurd (Nat.lt_of_lt_of_le (Heap.lt_size q) hb) (Nat.lt_irrefl _)
        refine set_update_few ((Walks.tuple hh3 _ l hneI items).toS) s.heap.objs.size
          hSf ks hisz hfew hval s.heap hk (none_of _ (Nat.le_refl _)) (fun b hb => none_of b (by
            rw [List.mem_singleton.mp hb, Heap.size_push]; omega)) hu (items.size - 0) 0 _ (by omega) (Nat.zero_le _)
          ⟨⟨_, Heap.get?_push_size _ rfl, rfl, rfl⟩, (hl1.push _)⟩ (fun b o e => Heap.get?_push_of_some _ (Heap.get?_push_of_some _ e)) ?hS0 ?hR
        case hS0 => exact ⟨[], #[], 0, _, setTR_fresh (Heap.get?_push_of_some _ hS), Got.zero ks⟩
        case hR =>
          intro s' L es ep t hm hS' g' hkp
          obtain ⟨h', g2, d', tk', os'⟩ := s'
          have eg : g2 = s.gens := hm.gens
          have ed : d' = s.drawn := hm.drawn
          have eo : os' = s.os := hm.os
          subst eg; subst ed; subst eo
          show wpAny _ _ _ _ _ _
          refine wpAny_pure ?_
          show wpAny _ _ (ret Value.none) _ _ _
          rw [hisz] at g'
          exact wpAny_pure ⟨rfl, h', tk', L, es, ep, t, rfl, hS', g', hkp⟩
      · cases r₂ with
        | error e => exact hr₂
        | ok fl₂ =>
          cases fl₂ with
          | ret r =>
            obtain ⟨rfl, h', tk, L, es, ep, t, rfl, hS', g', hk'⟩ := hr₂
            repeat (any_goals (first | assumption | wp_step))
            exact h _ _ _ _ _ _ hS' g' hk'
          | _ => exact hr₂.elim
    | _ => exact hr.elim
set_option maxHeartbeats 3200000 in
theorem set_of_fewL {l : Addr} {items : Array Value} (ks : List (Addr × List Int)) {Q : Value → Shared → Prop} (hh : A.handled = none) (ht : s.heap.IsList l items) (hit : items.toList = ks.map fun p => Value.ref p.1)
    (hk : ∀ p ∈ ks, IsT P w s.heap p.2 p.1) (hfew : ∀ L : List (Addr × List Int), (L.map (·.2)).Nodup → (∀ p ∈ L, p ∈ ks) → L.length < 63) (hu : A.units + 3 < cLine)
    (h : ∀ (h' : Heap) (tk : Nat) L es ep t, SetTR P w h' s.heap.objs.size L es ep t → Got ks ks.length L → (∀ b o, s.heap.get? b = some o → h'.get? b = some o) → Q (.ref s.heap.objs.size) { s with heap := h', toks := tk }) :
    wpAny (model P w) A (call (.type "set") [.ref l]) Q E s := by
  have hisz : items.size = ks.length := by simpa using congrArg List.length hit
  obtain ⟨c, tl, hmro⟩ := F.called_set.mro
  have hmade := F.called_set.made
  have hsub := F.called_set.sub
  refine wpAny_call (codeAny_of_tree ?_)
  show wpAny _ _ (callAny (.type "set") _) _ _ _
  refine wpAny_pure ⟨Code.quiet_builtin _ (by decide +kernel), codeAny_builtin F.entry_type_call ?_⟩
  rw [Around.under_plain (weight_type_call_type "set" [.ref l] []) rfl]
  have h1 := F.called_set.notType
  have h2 := F.called_set.canCreate
  have hct := F.typeCall_set_1 (.ref l)
  repeat (any_goals (first | assumption | wp_step))
  refine codeAny_mono (code_set_led1 (.ref l) (E := E) (Q₁ := fun obj s₁ => obj = .ref s.heap.objs.size ∧ s₁ = { s with heap := s.heap.push { cls := .type "set", dict := none, data := .set #[] 0 (.fresh 0 0 (!w.params.followText "set-order")) } }) ⟨rfl, rfl⟩) fun r s₁ hr => ?_
  cases r with
  | error e => exact hr
  | ok fl =>
    cases fl with
    | ret obj =>
      obtain ⟨rfl, rfl⟩ := hr
      have hS : (s.heap.push { cls := .type "set", dict := none, data := .set #[] 0 (.fresh 0 0 (!w.params.followText "set-order")) }).get? s.heap.objs.size = some { cls := .type "set", dict := none, data := .set #[] 0 (.fresh 0 0 (!w.params.followText "set-order")) } := Heap.get?_push_size _ rfl
      have hT : Shared.TypeIs { s with heap := s.heap.push { cls := .type "set", dict := none, data := .set #[] 0 (.fresh 0 0 (!w.params.followText "set-order")) } } (.ref s.heap.objs.size) "set" := ⟨_, hS, rfl⟩
      have hli := F.called_set.init.lookup
      have hbi := F.called_set.init.bind (.ref s.heap.objs.size)
      repeat (any_goals (first | assumption | wp_step))
      refine codeAny_mono (codeAny_call_builtin (R := wants (fun r s₂ => r = .none ∧ ∃ h' tk L es ep t, s₂ = { s with heap := h', toks := tk } ∧ SetTR P w h' s.heap.objs.size L es ep t ∧ Got ks ks.length L ∧
          (∀ b o, s.heap.get? b = some o → h'.get? b = some o)) E) F.called_set.init.plain F.entry_set_init (check_set_init_1 hT ?_)) fun r₂ s₂ hr₂ => ?_
      · obtain ⟨ol, hol, hcl, nl, hdl⟩ := ht
        obtain ⟨ocls, odict, odata, oslots⟩ := ol
        simp only at hcl hdl
        subst hcl; subst hdl
        have hol' : (s.heap.push { cls := .type "set", dict := none, data := .set #[] 0 (.fresh 0 0 (!w.params.followText "set-order")) }).get? l = some { cls := .type "list", dict := odict, data := .seq items nl, slots := oslots } := Heap.get?_push_of_some _ hol
        have hsls := F.sub_list_set
        have hslf := F.sub_list_frozenset
        have hne : (Value.type "list" == Value.type "dict") = false := by decide
        have hl1 : (s.heap.push { cls := .type "set", dict := none, data := .set #[] 0 (.fresh 0 0 (!w.params.followText "set-order")) }).IsList l items := ⟨_, hol', rfl, nl, rfl⟩
        unfold Builtin.«set.__init__» noKeywords Builtin.Frozenset.updateFrom
        generalize hPI : pyIter = PI
        wp_walk
        subst hPI
        refine wpAny_pyIter_list hl1 ?_
        refine wpAny_bind (wpAny_runValue ?_)
        have hlS : l < s.heap.objs.size := Heap.lt_size hol
        have hh3 : A.in1.in1.in1.handled = none := by simp [hh]
        have hneI : l ≠ (s.heap.push { cls := .type "set", dict := none, data := .set #[] 0 (.fresh 0 0 (!w.params.followText "set-order")) }).objs.size := by
          rw [Heap.size_push]; exact Nat.ne_of_lt (Nat.lt_succ_of_lt hlS)
        have hSf : s.heap.objs.size ∉ [(s.heap.push { cls := .type "set", dict := none, data := .set #[] 0 (.fresh 0 0 (!w.params.followText "set-order")) }).objs.size, l] := by
          rw [Heap.size_push]
          intro z
          rcases List.mem_cons.mp z with z | z
          · omega
          · exact Nat.ne_of_gt hlS (List.mem_singleton.mp z)
        have hval : ∀ (i : Nat) (v : Value), items[i]? = some v → ∃ p, ks[i]? = some p ∧ v = .ref p.1 := fun i v hv => by
          rw [← Array.getElem?_toList, hit, List.getElem?_map, Option.map_eq_some_iff] at hv
          obtain ⟨p, h1, h2⟩ := hv
          exact ⟨p, h1, h2.symm⟩
        have none_of : ∀ b, s.heap.objs.size ≤ b → s.heap.get? b = none := fun b hb => by
          cases q : s.heap.get? b with
          | none => rfl
          | some o => exact absurd (Nat.lt_of_lt_of_le (Heap.lt_size q) hb) (Nat.lt_irrefl _)
        refine set_update_few ((Walks.list hh3 _ l hneI items).toS) s.heap.objs.size
          hSf ks hisz hfew hval s.heap hk (none_of _ (Nat.le_refl _)) (fun b hb => none_of b (by
            rw [List.mem_singleton.mp hb, Heap.size_push]; omega)) hu (items.size - 0) 0 _ (by omega) (Nat.zero_le _)
          ⟨⟨_, Heap.get?_push_size _ rfl, rfl, rfl⟩, (hl1.push _)⟩ (fun b o e => Heap.get?_push_of_some _ (Heap.get?_push_of_some _ e)) ?hS0 ?hR
        case hS0 => exact ⟨[], #[], 0, _, setTR_fresh (Heap.get?_push_of_some _ hS), Got.zero ks⟩
        case hR =>
          intro s' L es ep t hm hS' g' hkp
          obtain ⟨h', g2, d', tk', os'⟩ := s'
          have eg : g2 = s.gens := hm.gens
          have ed : d' = s.drawn := hm.drawn
          have eo : os' = s.os := hm.os
          subst eg; subst ed; subst eo
          show wpAny _ _ _ _ _ _
          refine wpAny_pure ?_
          show wpAny _ _ (ret Value.none) _ _ _
          rw [hisz] at g'
          exact wpAny_pure ⟨rfl, h', tk', L, es, ep, t, rfl, hS', g', hkp⟩
      · cases r₂ with
        | error e => exact hr₂
        | ok fl₂ =>
          cases fl₂ with
          | ret r =>
            obtain ⟨rfl, h', tk, L, es, ep, t, rfl, hS', g', hk'⟩ := hr₂
            repeat (any_goals (first | assumption | wp_step))
            exact h _ _ _ _ _ _ hS' g' hk'
          | _ => exact hr₂.elim
    | _ => exact hr.elim
end
end DL

/-! DSet2: a set of tuples, sorted. -/
namespace DL
open PySem PySem.Spec PyProof.Rows L2
section
variable {P : Program} {w : World} {A : Around} {E : Value → Shared → Prop} {s : Shared}
theorem perm_map {α β : Type} {f : α → β} {vs ws : List β} (h : vs.Perm ws) : ∀ {L : List α}, ws = L.map f → ∃ L1 : List α, L1.Perm L ∧ vs = L1.map f := by
  induction h with
  | nil => intro L e; exact ⟨L, .refl _, e⟩
  | cons x _ ih =>
    intro L e
    cases L with
    | nil => cases e
    | cons p L =>
      rw [List.map_cons] at e
      injection e with e1 e2
      obtain ⟨L1, h1, h2⟩ := ih e2
      exact ⟨p :: L1, h1.cons p, by rw [List.map_cons, e1, h2]⟩
  | swap x y l =>
    intro L e
    cases L with
    | nil => cases e
    | cons p L =>
      cases L with
      | nil => cases e
      | cons q L =>
        rw [List.map_cons, List.map_cons] at e
        injection e with e1 e2
        injection e2 with e2 e3
        exact ⟨q :: p :: L, .swap _ _ _, by rw [List.map_cons, List.map_cons, e1, e2, e3]⟩
  | trans _ _ ih1 ih2 =>
    intro L e
    obtain ⟨L1, h1, h2⟩ := ih2 e
    obtain ⟨L2, h3, h4⟩ := ih1 h2
    exact ⟨L2, h3.trans h1, h4⟩
theorem ints_reads {h : Heap} {vs : List Value} {k : List Int} (i : IntsAre vs k) : ∃ as, ReadsAll h vs (k.map .int) as := by
  induction i with
  | nil => exact ⟨_, .nil⟩
  | cons n t _ ih => obtain ⟨as, r⟩ := ih; exact ⟨_, .cons (.int n t) r⟩
theorem isT_reads {h : Heap} {k : List Int} {b : Addr} (x : IsT P w h k b) : ∃ as, Reads h (.ref b) (.tuple (k.map .int)) as := by
  obtain ⟨o, items, n, ho, hc, hd, hi⟩ := x
  obtain ⟨as, r⟩ := ints_reads (h := h) (ints_of_items hi)
  exact ⟨_, .tuple ho hc hd r⟩
theorem depth_ints : ∀ (k : List Int), PyData.depthAll (k.map .int) ≤ 1
  | [] => by rw [List.map_nil, PyData.depthAll]; omega
  | n :: k => by
    rw [List.map_cons, PyData.depthAll, PyData.depth]
    have := depth_ints k
    omega
theorem depth_tD (k : List Int) : (tD k).depth ≤ 2 := by
  unfold tD
  rw [PyData.depth]
  have := depth_ints k
  omega
theorem alike_ints : ∀ (a b : List Int), PySem.W.alikeAll (a.map .int) (b.map .int) = true
  | [], b => by rw [List.map_nil, PySem.W.alikeAll]
  | x :: a, [] => by rw [List.map_nil, List.map_cons, PySem.W.alikeAll]
  | x :: a, y :: b => by rw [List.map_cons, List.map_cons, PySem.W.alikeAll, alike_ints a b, PySem.W.alike]; rfl
theorem alike_tD (a b : List Int) : PySem.W.alike (tD a) (tD b) = true := by
  unfold tD
  rw [PySem.W.alike]
  exact alike_ints a b
def enc2 (q : Addr × List Int) : D := tD q.2
theorem each_refs : ∀ (L : List (Addr × List Int)), PySem.W.EachIs (fun v (q : Addr × List Int) => v = Value.ref q.1) (L.map fun q => Value.ref q.1) L
  | [] => .nil
  | q :: L => .cons rfl (each_refs L)
theorem refs_each {vs : List Value} {L : List (Addr × List Int)} (h : PySem.W.EachIs (fun v (q : Addr × List Int) => v = Value.ref q.1) vs L) : vs = L.map fun q => Value.ref q.1 := by
  induction h with
  | nil => rfl
  | cons r _ ih => rw [r, ih]; rfl
theorem each_reads {h : Heap} : ∀ {L : List (Addr × List Int)}, (∀ q ∈ L, IsT P w h q.2 q.1) → PySem.W.EachIs (fun v (q : Addr × List Int) => ∃ as, Reads h v (enc2 q) as) (L.map fun q => Value.ref q.1) L
  | [], _ => .nil
  | q :: L, hq => .cons (isT_reads (hq q List.mem_cons_self)) (each_reads fun r hr => hq r (List.mem_cons_of_mem _ hr))
/-- the values of a set of tuples, sorted -/
theorem sorted_set {a : Addr} {L : List (Addr × List Int)} {es : Array (Int × Value)} {ep : Nat} {t : SetTable} {Q : Value → Shared → Prop} (R : SetTR P w s.heap a L es ep t) (hh : A.handled = none) (hu : A.units + 80 < cLine)
    (hQ : ∀ s' p (c : Nat) (L1 : List (Addr × List Int)), (∀ b o, s.heap.get? b = some o → s'.heap.get? b = some o) → s'.gens = s.gens → s'.os = s.os → s.heap.objs.size ≤ p →
      s'.heap.get? p = some (seqObj "list" ((L1.mergeSort (PySem.W.dataLe false enc2)).map fun q => Value.ref q.1).toArray c) → L1.Perm L → Q (.ref p) s') :
    wpAny (model P w) A (call (.builtin "sorted") [.ref a]) Q E s := by
  obtain ⟨o, ho, hex, hd⟩ := R.ob
  have hsz := R.size
  have hfew := R.few
  refine Calls.call_function_entry kind_sorted plain_sorted entry_sorted (args_sorted1 _) ?_
  unfold Builtin.«sorted»
  refine wpAny_bind (m := checkCount "sorted" 1 1 _) (wpAny_pure ?_)
  refine wpAny_bind (collect_set (A := A.in1) hh ⟨o, ho, hex.1, hd⟩ R.fits (by unfold scanBound; omega) R.tab.ris R.led fun s1 vs k1 hz g1 o1 pm => ?_)
  have hes : es.toList.map (·.2) = L.map fun q => Value.ref q.1 := by
    rw [R.rows]
    unfold rowsOf
    rw [List.map_map] <;> rfl
  rw [hes] at pm
  obtain ⟨L1, pL, rfl⟩ := perm_map pm rfl
  have hvl : (L1.map fun q => Value.ref q.1).length < 64 := by rw [List.length_map, pL.length_eq]; exact hfew
  refine wpAny_bind (wpAny_newList ?_ (by rw [sizeLine_eq]; omega))
  have hoL : (s1.heap.push (seqObj "list" (L1.map fun q => Value.ref q.1).toArray 0)).get? s1.heap.objs.size = some (seqObj "list" (L1.map fun q => Value.ref q.1).toArray 0) := Heap.get?_push_size _ rfl
  have old : ∀ b u, s.heap.get? b = some u → (PySem.W.sortingHeap (s1.heap.push (seqObj "list" (L1.map fun q => Value.ref q.1).toArray 0)) s1.heap.objs.size (L1.map fun q => Value.ref q.1)).get? b = some u := fun b u q =>
    PySem.W.sortingHeap_old (Nat.ne_of_lt (Heap.lt_size (k1 b u q))) (Heap.get?_push_of_some _ (k1 b u q))
  have er := each_reads (P := P) (w := w) (L := L1) fun q hq => isT_keep (R.tup q (pL.mem_iff.mp hq)) old
  have hal : PySem.W.AllAlike (L1.map enc2) := fun d hd e he => by
    obtain ⟨q, _, rfl⟩ := List.mem_map.mp hd
    obtain ⟨r, _, rfl⟩ := List.mem_map.mp he
    exact alike_tD _ _
  have S := sortsAt (prog := P) (w := w) (A := A.in1.in1) (s := { s1 with heap := PySem.W.sortingHeap (s1.heap.push (seqObj "list" (L1.map fun q => Value.ref q.1).toArray 0)) s1.heap.objs.size (L1.map fun q => Value.ref q.1) })
    (PySem.W.each_map (R := fun v d => ∃ as, Reads (PySem.W.sortingHeap (s1.heap.push (seqObj "list" (L1.map fun q => Value.ref q.1).toArray 0)) s1.heap.objs.size (L1.map fun q => Value.ref q.1)) v d as) enc2 er) hal
    (fun d hd e => by obtain ⟨q, _, rfl⟩ := List.mem_map.mp hd; cases e) (fun d hd => by
      obtain ⟨q, _, rfl⟩ := List.mem_map.mp hd
      have := depth_tD q.2
      show A.units + 1 + 1 + (tD q.2).depth < cLine
      omega)
  refine wpAny_bind (wpAny_holding (wpAny_call_entry slot_list_sort ⟨_, hoL, rfl⟩ entry_list_sort (PySem.W.list_sort_vals (s := { s1 with heap := s1.heap.push (seqObj "list" (L1.map fun q => Value.ref q.1).toArray 0) }) hoL S (by rw [sizeLine_eq]; omega) ⟨_, rfl, ?_⟩) (args_list_sort _)))
  have out := refs_each (PySem.W.sortVals_data false (each_refs L1) er hal)
  obtain ⟨c, hc⟩ := sortedHeap_at (vs := L1.map fun q => Value.ref q.1) (out := (PySem.W.sortVals (PySem.W.dataKind (PySem.W.sortingHeap (s1.heap.push (seqObj "list" (L1.map fun q => Value.ref q.1).toArray 0)) s1.heap.objs.size (L1.map fun q => Value.ref q.1)) (L1.map enc2)) false (L1.map fun q => Value.ref q.1) (L1.map fun q => Value.ref q.1)).toArray) hoL
  refine wpAny_pure ⟨_, rfl, hQ _ s1.heap.objs.size c L1 (fun b u e => ?_) g1 o1 hz ?_ pL⟩
  · have q := k1 b u e
    have hlt := Heap.lt_size q
    show (sortedHeap (s1.heap.push _) s1.heap.objs.size _ _).get? b = some u
    rw [sortedHeap_old (Nat.ne_of_lt hlt) (by rw [size_push']; exact Nat.lt_succ_of_lt hlt)]
    exact Heap.get?_push_of_some _ q
  · rw [← out]
    exact hc
end
end DL

/-! DExp: the state's relation; expressions keep their plain meaning, construct by construct. -/
namespace DL
open PySem PySem.Spec PyProof.Rows L2
abbrev St := L2.St
/-- the dict of the heap -/
def dkV (kvs : List (Int × D)) (vs : List V) : List (Key × V) := ((kvs.map (·.1)).zip vs).map fun p => (Sum.inl p.1, p.2)
def SlR (K : Fg) (H0 F H : Hp) : Sl → Option (Option V) → Prop
  | .un, _ => True
  | .sh d, o => ∃ v, o = some (some v) ∧ DV K F v d
  | .own d, o => ∃ a, o = some (some (.ref a)) ∧ F a = none ∧ H0 a = none ∧ Root K F H a d
  | .bor d, o => ∃ v, o = some (some v) ∧ BV K F H v d
  | .dic kvs, o => ∃ a vs, o = some (some (.ref a)) ∧ F a = none ∧ H0 a = none ∧ H a = some (.dK (dkV kvs vs)) ∧ DVs K F vs (kvs.map (·.2))
structure Rel (K : Fg) (F0 H0 F : Hp) (ρ : Rho) (σ : St) (H : Hp) : Prop where
  len : ρ.length = σ.length
  sub : Sub F H
  f0 : Sub F0 F
  same : Sub H0 H
  new : ∀ a, F a ≠ none → F0 a ≠ none ∨ H0 a = none
  fz : ∀ a o u, F a = some (.frz o u) → F0 a = some (.frz o u)
  slot : ∀ (i : Nat) (s : Sl), ρ[i]? = some s → SlR K H0 F H s σ[i]?
  apart : ∀ (i j : Nat) (d : D) (a : Addr), ρ[i]? = some (.own d) → σ[i]? = some (some (.ref a)) → i ≠ j → σ[j]? = some (some (.ref a)) → (∀ e, ρ[j]? ≠ some (.own e)) ∧ ∀ e, ρ[j]? = some (.bor e) → DV K F (.ref a) e
theorem SlR.grow {K : Fg} {H0 F H F' H' : Hp} {s : Sl} {o : Option (Option V)} (h : SlR K H0 F H s o) (g : Grow F H F' H') : SlR K H0 F' H' s o := by
  cases s with
  | un => trivial
  | sh d => obtain ⟨v, e, h⟩ := h; exact ⟨v, e, h.mono g.f⟩
  | bor d => obtain ⟨v, e, h⟩ := h; exact ⟨v, e, h.grow g⟩
  | dic kvs => obtain ⟨a, vs, e, f, n, h1, h2⟩ := h; exact ⟨a, vs, e, g.keep f h1, n, g.h _ _ h1, h2.mono g.f⟩
  | own d =>
    obtain ⟨a, e, f, n, r⟩ := h
    refine ⟨a, e, ?_, n, r.mono g.f fun o q => g.h a o q⟩
    cases d with
    | list ds => obtain ⟨vs, h1, _⟩ := r; exact g.keep f h1
    | _ => exact r.elim
theorem Rel.grow {K : Fg} {F0 H0 F H F' H' : Hp} {ρ : Rho} {σ : St} (r : Rel K F0 H0 F ρ σ H) (g : Grow F H F' H') : Rel K F0 H0 F' ρ σ H' :=
  ⟨r.len, g.fh, r.f0.trans g.f, r.same.trans g.h, fun a h => by
    rcases g.new a h with q | q
    · exact r.new a q
    · exact .inr (r.same.none q), fun a o u h => r.fz a o u (g.fz a o u h), fun i s e => (r.slot i s e).grow g, fun i j d a h1 h2 h3 h4 => by
    obtain ⟨q1, q2⟩ := r.apart i j d a h1 h2 h3 h4
    exact ⟨q1, fun e h => (q2 e h).mono g.f⟩⟩
/-- an error of the class c with the fields fs -/
def XR (mg : Str → Option Value) (K : Fg) (F H : Hp) (c : Str) (fs : List (Str × D)) (cls : Value) (dd : Option Addr) : Prop :=
  ∃ C, mg c = some (.ref C) ∧ cls = .ref C ∧ ((fs = [] ∧ dd = none) ∨ ∃ d fv, fs ≠ [] ∧ dd = some d ∧ F d = none ∧ H d = some (.xd fv) ∧ fv.map (·.1) = fs.map (·.1) ∧ DVs K F (fv.map (·.2)) (fs.map (·.2)))
def PostE (X : Cx) (W : WX) (F H : Hp) (σ : St) (k : Nat) (m : M D) (Q : VK) : Prop := match m with
  | .ok d => ∀ v F' H', Grow F H F' H' → Res k X.K F' H' H v d → Q v H'
  | .ex c fs => ∀ F' H' cls dd, Grow F H F' H' → XR X.mg X.K F' H' c fs cls dd → W cls dd σ H'
  | .bad => False
def PostB (X : Cx) (W : WX) (F H : Hp) (σ : St) (m : M Bool) (Q : Bool → Hp → Prop) : Prop := match m with
  | .ok b => ∀ F' H', Grow F H F' H' → Q b H'
  | .ex c fs => ∀ F' H' cls dd, Grow F H F' H' → XR X.mg X.K F' H' c fs cls dd → W cls dd σ H'
  | .bad => False
inductive ResL (K : Fg) (F' H' H : Hp) : List Nat → List V → List D → Prop
  | nil : ResL K F' H' H [] [] []
  | cons {k : Nat} {ks : List Nat} {v : V} {vs : List V} {d : D} {ds : List D} : Res k K F' H' H v d → ResL K F' H' H ks vs ds → ResL K F' H' H (k :: ks) (v :: vs) (d :: ds)
def PostL (X : Cx) (W : WX) (F H : Hp) (σ : St) (ks : List Nat) (m : M (List D)) (Q : List V → Hp → Prop) : Prop := match m with
  | .ok ds => ∀ vs F' H', Grow F H F' H' → ResL X.K F' H' H ks vs ds → Q vs H'
  | .ex c fs => ∀ F' H' cls dd, Grow F H F' H' → XR X.mg X.K F' H' c fs cls dd → W cls dd σ H'
  | .bad => False
/-- the reading of an expression, a test, a list of arguments -/
def TE' (X : Cx) (W : WX) (k : Nat) (f : Rho → M D) : TE := fun σ H Q => ∃ F0 H0 F ρ, Rel X.K F0 H0 F ρ σ H ∧ PostE X W F H σ k (f ρ) Q
def TT' (X : Cx) (W : WX) (f : Rho → M Bool) : TT := fun σ H Q => ∃ F0 H0 F ρ, Rel X.K F0 H0 F ρ σ H ∧ PostB X W F H σ (f ρ) Q
def TA' (X : Cx) (W : WX) (ks : List Nat) (f : Rho → M (List D)) : TA := fun σ H Q => ∃ F0 H0 F ρ, Rel X.K F0 H0 F ρ σ H ∧ PostL X W F H σ ks (f ρ) Q
theorem PE.imp {X : Cx} {e : Expr} {t t' : TE} (h : PE X e t) (i : ∀ σ H Q, t' σ H Q → t σ H Q) : PE X e t' := ⟨fun pins s σ H Q I q => h.run pins s σ H Q I (i σ H Q q)⟩
theorem PT.imp {X : Cx} {e : Expr} {t t' : TT} (h : PT X e t) (i : ∀ σ H Q, t' σ H Q → t σ H Q) : PT X e t' := ⟨fun pins s σ H Q I q => h.run pins s σ H Q I (i σ H Q q)⟩
theorem PW.imp {X : Cx} {e : Expr} {t t' : TT} (h : PW X e t) (i : ∀ σ H Q, t' σ H Q → t σ H Q) : PW X e t' := ⟨fun wh pins s σ H Q I q => h.run wh pins s σ H Q I (i σ H Q q)⟩
theorem PA.imp {X : Cx} {e : List Expr} {t t' : TA} (h : PA X e t) (i : ∀ σ H Q, t' σ H Q → t σ H Q) : PA X e t' := ⟨fun pos pins s σ H Q I q => h.run pos pins s σ H Q I (i σ H Q q)⟩
section
variable {X : Cx} {W : WX} {F H F1 H1 : Hp} {σ : St} {k k1 : Nat} {Q R : VK}
theorem Res.old {K : Fg} {F' H' H H1 : Hp} {v : V} {d : D} (h : Res k K F' H' H1 v d) (s : Sub H H1) : Res k K F' H' H v d := by
  unfold Res at h ⊢
  split at h
  · rename_i e; rw [if_pos e]; exact h
  · rename_i e; rw [if_neg e]
    split at h
    · rename_i e; rw [if_pos e]
      split at h
      · rename_i e; rw [if_pos e]
        obtain ⟨a, e1, f, n, r⟩ := h
        exact ⟨a, e1, f, s.none n, r⟩
      · rename_i e; rw [if_neg e]; exact h
    · rename_i e; rw [if_neg e]; exact h
theorem PostE.shift {m : M D} (p : PostE X W F H σ k m Q) (g : Grow F H F1 H1) : PostE X W F1 H1 σ k m Q := by
  cases m with
  | ok d => exact fun v F' H' g' r => p v F' H' (g.trans g') (r.old g.h)
  | ex c fs => exact fun F' H' cls dd g' x => p F' H' cls dd (g.trans g') x
  | bad => exact p
theorem PostE.seq {m : M D} {f : D → M D} (p : PostE X W F H σ k (m.bind f) Q)
    (h : ∀ d v F1 H1, Grow F H F1 H1 → Res k1 X.K F1 H1 H v d → PostE X W F1 H1 σ k (f d) Q → R v H1) : PostE X W F H σ k1 m R := by
  cases m with
  | ok d => exact fun v F' H' g r => h d v F' H' g r (PostE.shift (m := f d) p g)
  | ex c fs => exact p
  | bad => exact p
theorem PostE.seqB {m : M Bool} {f : Bool → M D} {R : Bool → Hp → Prop} (p : PostE X W F H σ k (m.bind f) Q)
    (h : ∀ b F1 H1, Grow F H F1 H1 → PostE X W F1 H1 σ k (f b) Q → R b H1) : PostB X W F H σ m R := by
  cases m with
  | ok d => exact fun F' H' g => h d F' H' g (PostE.shift (m := f d) p g)
  | ex c fs => exact p
  | bad => exact p
theorem PostE.seqL {m : M (List D)} {f : List D → M D} {ks : List Nat} {R : List V → Hp → Prop} (p : PostE X W F H σ k (m.bind f) Q)
    (h : ∀ ds vs F1 H1, Grow F H F1 H1 → ResL X.K F1 H1 H ks vs ds → PostE X W F1 H1 σ k (f ds) Q → R vs H1) : PostL X W F H σ ks m R := by
  cases m with
  | ok d => exact fun v F' H' g r => h d v F' H' g r (PostE.shift (m := f d) p g)
  | ex c fs => exact p
  | bad => exact p
theorem PostE.toB {m : M D} {R : Bool → Hp → Prop} (p : PostB X W F H σ (evB m) R) : PostE X W F H σ k m (fun v H' => ∃ b, v = .bl b ∧ R b H') := by
  cases m with
  | ok d =>
    cases d with
    | bool b =>
      refine fun v F' H' g r => ⟨b, ?_, p F' H' g⟩
      have := r.bv
      exact this.bool_inv
    | _ => exact (show False from p).elim
  | ex c fs => exact p
  | bad => exact p
theorem PostB.shift {m : M Bool} {Q : Bool → Hp → Prop} (p : PostB X W F H σ m Q) (g : Grow F H F1 H1) : PostB X W F1 H1 σ m Q := by
  cases m with
  | ok d => exact fun F' H' g' => p F' H' (g.trans g')
  | ex c fs => exact fun F' H' cls dd g' x => p F' H' cls dd (g.trans g') x
  | bad => exact p
theorem PostB.seqB {m : M Bool} {f : Bool → M Bool} {Q R : Bool → Hp → Prop} (p : PostB X W F H σ (m.bind f) Q)
    (h : ∀ b F1 H1, Grow F H F1 H1 → PostB X W F1 H1 σ (f b) Q → R b H1) : PostB X W F H σ m R := by
  cases m with
  | ok d => exact fun F' H' g => h d F' H' g (PostB.shift (m := f d) p g)
  | ex c fs => exact p
  | bad => exact p
theorem PostB.seqE {m : M D} {f : D → M Bool} {Q : Bool → Hp → Prop} {R : VK} (p : PostB X W F H σ (m.bind f) Q)
    (h : ∀ d v F1 H1, Grow F H F1 H1 → Res k1 X.K F1 H1 H v d → PostB X W F1 H1 σ (f d) Q → R v H1) : PostE X W F H σ k1 m R := by
  cases m with
  | ok d => exact fun v F' H' g r => h d v F' H' g r (PostB.shift (m := f d) p g)
  | ex c fs => exact p
  | bad => exact p
theorem PostL.shift {m : M (List D)} {ks : List Nat} {Q : List V → Hp → Prop} (p : PostL X W F H σ ks m Q) (g : Grow F H F1 H1) : PostL X W F1 H1 σ ks m Q := by
  cases m with
  | ok d =>
    refine fun v F' H' g' r => p v F' H' (g.trans g') ?_
    have old : ∀ {ks vs ds}, ResL X.K F' H' H1 ks vs ds → ResL X.K F' H' H ks vs ds := by
      intro ks vs ds r
      induction r with
      | nil => exact .nil
      | cons h _ ih => exact .cons (h.old g.h) ih
    exact old r
  | ex c fs => exact fun F' H' cls dd g' x => p F' H' cls dd (g.trans g') x
  | bad => exact p
/-- an outcome without errors -/
def NoEx {α : Type} (m : M α) : Prop := ∀ c fs, m ≠ .ex c fs
theorem PostE.toV {m : M D} (p : PostE X W F H σ k m Q) (n : NoEx m) : PostV X.K F H k m Q := by
  cases m with
  | ok d => exact p
  | ex c fs => exact absurd rfl (n c fs)
  | bad => exact p
theorem PostE.flat {d : D} {w : V} (p : PostE X W F H σ k (.ok d) Q) (s : Sub F H) (h : DV X.K F w d) (e : isRoot d = false) : Q w H := p w F H (Grow.refl s) (.flat h e)
end
theorem noex_bin (o : Bop) (x y : D) : NoEx (binD o x y) := by
  intro c fs
  unfold binD
  split <;> (try unfold mkTup) <;> (try unfold mkLst) <;> (try split) <;> simp
theorem noex_cmp (o : Cop) (x y : D) : NoEx (cmpD o x y) := by
  intro c fs
  unfold cmpD
  split <;> (try split) <;> simp
theorem noex_ofO {α : Type} (o : Option α) : NoEx (M.ofO o) := by
  intro c fs
  cases o <;> simp
theorem noex_bind {α β : Type} {m : M α} {f : α → M β} (h : NoEx m) (g : ∀ a, NoEx (f a)) : NoEx (m.bind f) := by
  intro c fs
  cases m with
  | ok a => exact g a c fs
  | ex c' fs' => exact absurd rfl (h c' fs')
  | bad => simp
theorem noex_idx (x y : D) : NoEx (idxD x y) := by
  unfold idxD
  split
  · exact noex_ofO _
  · exact noex_ofO _
  · intro c fs; simp
theorem noex_slc (x : D) (l h : Option Int) : NoEx (slcD x l h) := by
  intro c fs
  unfold slcD
  split <;> simp
theorem noex_ok {α : Type} (a : α) : NoEx (M.ok a) := fun c fs => by simp
theorem noex_bad {α : Type} : NoEx (M.bad : M α) := fun c fs => by simp
theorem noex_if {α : Type} {c : Prop} [Decidable c] {a b : M α} (h : NoEx a) (g : NoEx b) : NoEx (if c then a else b) := by
  split
  · exact h
  · exact g
theorem noex_sort (xs : List D) : NoEx (sortL xs) := by
  intro c fs; unfold sortL; split <;> simp
theorem noex_blt (b : Blt) (ds : List D) : NoEx (bltD b ds) := by
  unfold bltD
  split <;> first
    | exact noex_ok _
    | exact noex_bad
    | exact noex_if (noex_ok _) noex_bad
    | (split <;> first | exact noex_if (noex_ok _) noex_bad | (split <;> first | exact noex_if (noex_ok _) noex_bad | exact noex_bad))
    | exact noex_bind (noex_ofO _) fun _ => noex_ok _
    | exact noex_bind (noex_ofO _) fun _ => noex_bind (noex_sort _) fun _ => noex_ok _
    | exact noex_bind (noex_ofO _) fun ks => noex_if (noex_ok _) noex_bad
    | exact noex_bind (noex_sort _) fun _ => noex_ok _
    | (unfold lenD; split <;> (try split) <;> first | exact noex_ok _ | exact noex_bad)
    | (unfold strI; exact noex_if (noex_ok _) noex_bad)
    | exact noex_if (noex_bind (noex_ofO _) fun _ => noex_ok _) noex_bad
    | (exact noex_bind (noex_ofO _) fun ns => by cases ns <;> first | exact noex_ok _ | exact noex_bad)
section
variable {X : Cx} {W : WX} {F H F1 H1 : Hp} {σ : St} {k k1 : Nat} {Q R : VK} {pos : Pos}
theorem tri {e : Expr} {v : V} {d : D} (h : PE X e (tC v)) (hd : ∀ F, DV X.K F v d) (n : isRoot d = false) : PE X e (TE' X W k fun _ => .ok d) :=
  PE.imp h fun σ H Q ⟨F0, H0, F, ρ, r, p⟩ => p.flat r.sub (hd F) n
theorem s_var {i : Nat} {x : Str} (hN : X.N[i]? = some x) (hv : Vis X.env.scope x) (hd : (x == ("__debug__" : Str)) = false) (hcd : (x == ("__classdict__" : Str)) = false) : PE X (.Name x pos) (TE' X W 0 fun ρ => getSh ρ i) := by
  refine PE.imp (pe_var hN hv hd hcd) fun σ H Q ⟨F0, H0, F, ρ, r, p⟩ => ?_
  have p : PostE X W F H σ 0 (getSh ρ i) Q := p
  unfold getSh at p
  split at p
  · rename_i d e
    obtain ⟨v, e2, h⟩ := r.slot i _ e
    exact ⟨v, e2, p v F H (Grow.refl r.sub) (by unfold Res; rw [if_pos rfl]; exact h)⟩
  · exact p.elim
theorem s_bvar {i : Nat} {x : Str} (hN : X.N[i]? = some x) (hv : Vis X.env.scope x) (hd : (x == ("__debug__" : Str)) = false) (hcd : (x == ("__classdict__" : Str)) = false) : PE X (.Name x pos) (TE' X W 2 fun ρ => getB ρ i) := by
  refine PE.imp (pe_var hN hv hd hcd) fun σ H Q ⟨F0, H0, F, ρ, r, p⟩ => ?_
  have p : PostE X W F H σ 2 (getB ρ i) Q := p
  have fin : ∀ d v, PostE X W F H σ 2 (.ok d) Q → BV X.K F H v d → Q v H := fun d v p h => p v F H (Grow.refl r.sub) (by unfold Res; rw [if_neg (by decide), if_neg (by decide)]; exact h)
  unfold getB at p
  split at p
  · rename_i d e
    obtain ⟨v, e2, h⟩ := r.slot i _ e
    exact ⟨v, e2, fin d v p (.inl h)⟩
  · rename_i d e
    obtain ⟨a, e2, f, n, h⟩ := r.slot i _ e
    exact ⟨.ref a, e2, fin d _ p (.inr ⟨a, rfl, f, h⟩)⟩
  · rename_i d e
    obtain ⟨v, e2, h⟩ := r.slot i _ e
    exact ⟨v, e2, fin d v p h⟩
  · exact p.elim
theorem s_op2 {a b e : Expr} {ka kb : Nat} {fa fb : Rho → M D} {g : D → D → M D} (n : ∀ x y, NoEx (g x y)) (h : PE X e (tOp (rD2 X.K k g) (TE' X W ka fa) (TE' X W kb fb))) :
    PE X e (TE' X W k fun ρ => (fa ρ).bind fun x => (fb ρ).bind fun y => g x y) := by
  refine PE.imp h fun σ H Q ⟨F0, H0, F, ρ, r, p⟩ => ⟨F0, H0, F, ρ, r, PostE.seq p fun x v F1 H1 g1 r1 p1 => ?_⟩
  exact ⟨F0, H0, F1, ρ, r.grow g1, PostE.seq p1 fun y u F2 H2 g2 r2 p2 => ⟨F2, x, y, g2.fh, r1.bv.grow g2, r2.bv, p2.toV (n x y)⟩⟩
theorem s_bin {a b : Expr} {ka kb : Nat} {fa fb : Rho → M D} (o : Bop) (ha : PE X a (TE' X W ka fa)) (hb : PE X b (TE' X W kb fb)) : PE X (.BinOp a (bopOf o) b pos) (TE' X W 1 fun ρ => (fa ρ).bind fun x => (fb ρ).bind fun y => binD o x y) :=
  s_op2 (a := a) (b := b) (noex_bin o) (pe_op (op_bin o) ha hb)
theorem s_cmp {a b : Expr} {ka kb j : Nat} {fa fb : Rho → M D} (hr : Room j X.A) (o : Cop) (ha : PE X a (TE' X W ka fa)) (hb : PE X b (TE' X W kb fb)) (hm : behindInMarks (copOf o) b = false) :
    PE X (.Compare a [copOf o] [b] pos) (TE' X W 1 fun ρ => (fa ρ).bind fun x => (fb ρ).bind fun y => cmpD o x y) :=
  s_op2 (a := a) (b := b) (noex_cmp o) (pe_cmpR (op_cmp hr o) ha hb hm)
theorem s_idx {a b : Expr} {ka kb : Nat} {fa fb : Rho → M D} (ha : PE X a (TE' X W ka fa)) (hb : PE X b (TE' X W kb fb)) (hs : PlainIx b) : PE X (.Subscript a b pos) (TE' X W 0 fun ρ => (fa ρ).bind fun x => (fb ρ).bind fun y => idxD x y) :=
  s_op2 (a := a) (b := b) noex_idx (pe_ix ix_D ha hb hs)
/-- tests -/
theorem t_of {f : Rho → M D} {t : TE} {e : Expr} (h : PT X e (tTest t)) (i : ∀ σ H Q, TE' X W k f σ H Q → t σ H Q) : PT X e (TT' X W fun ρ => evB (f ρ)) :=
  PT.imp h fun σ H Q ⟨F0, H0, F, ρ, r, p⟩ => i σ H _ ⟨F0, H0, F, ρ, r, PostE.toB p⟩
theorem t_cmp {a b : Expr} {ka kb j : Nat} {fa fb : Rho → M D} (hr : Room j X.A) (o : Cop) (ha : PE X a (TE' X W ka fa)) (hb : PE X b (TE' X W kb fb)) (hm : behindInMarks (copOf o) b = false) :
    PT X (.Compare a [copOf o] [b] pos) (TT' X W fun ρ => evB ((fa ρ).bind fun x => (fb ρ).bind fun y => cmpD o x y)) := by
  refine t_of (k := 1) (pt_cmpR (op_cmp hr o) ha hb hm) fun σ H Q ⟨F0, H0, F, ρ, r, p⟩ => ⟨F0, H0, F, ρ, r, PostE.seq p fun x v F1 H1 g1 r1 p1 => ?_⟩
  exact ⟨F0, H0, F1, ρ, r.grow g1, PostE.seq p1 fun y u F2 H2 g2 r2 p2 => ⟨F2, x, y, g2.fh, r1.bv.grow g2, r2.bv, p2.toV (noex_cmp o x y)⟩⟩
theorem t_val {e : Expr} {f : Rho → M D} (h : PE X e (TE' X W k f)) (he : ∀ whole, isTrue e X.env whole = (do let v ← whole; standAt e.pos; holding [v] (truthy v))) : PT X e (TT' X W fun ρ => evB (f ρ)) :=
  PT.imp (pt_val h he) fun σ H Q ⟨F0, H0, F, ρ, r, p⟩ => ⟨F0, H0, F, ρ, r, PostE.toB p⟩
theorem chain_read {fa fb fc : Rho → M D} {o o' : Cop} {ka kb kc : Nat} : ∀ σ H Q, TE' X W 1 (fun ρ => (fa ρ).bind fun x => (fb ρ).bind fun y => (evB (cmpD o x y)).bind fun k => if k = true then (fc ρ).bind fun z => cmpD o' y z else .ok (.bool false)) σ H Q →
    tChain (rD2 X.K 1 (cmpD o)) (rD2 X.K 1 (cmpD o')) (TE' X W ka fa) (TE' X W kb fb) (TE' X W kc fc) σ H Q := fun σ H Q ⟨F0, H0, F, ρ, r, p⟩ => by
  refine ⟨F0, H0, F, ρ, r, PostE.seq p fun x v F1 H1 g1 r1 p1 => ⟨F0, H0, F1, ρ, r.grow g1, PostE.seq p1 fun y u F2 H2 g2 r2 p2 => ⟨F2, x, y, g2.fh, r1.bv.grow g2, r2.bv, ?_⟩⟩⟩
  refine PostE.toV (X := X) (W := W) (σ := σ) (PostE.toB (k := 1) (PostE.seqB p2 fun b F3 H3 g3 p3 => ?_)) (noex_cmp o x y)
  cases b with
  | true =>
    rw [if_pos rfl] at p3 ⊢
    exact ⟨F0, H0, F3, ρ, ((r.grow g1).grow g2).grow g3, PostE.seq p3 fun z w F4 H4 g4 r4 p4 => ⟨F4, y, z, g4.fh, (r2.bv.grow g3).grow g4, r4.bv, p4.toV (noex_cmp o' y z)⟩⟩
  | false =>
    rw [if_neg Bool.false_ne_true] at p3 ⊢
    exact p3.flat g3.fh (.bool false) rfl
theorem s_chain {a b c : Expr} {ka kb kc j : Nat} {fa fb fc : Rho → M D} (hr : Room j X.A) (o o' : Cop) (ha : PE X a (TE' X W ka fa)) (hb : PE X b (TE' X W kb fb)) (hc : PE X c (TE' X W kc fc)) (hm : lastMarks [copOf o, copOf o'] [b, c] = false) :
    PE X (.Compare a [copOf o, copOf o'] [b, c] pos) (TE' X W 1 fun ρ => (fa ρ).bind fun x => (fb ρ).bind fun y => (evB (cmpD o x y)).bind fun k => if k = true then (fc ρ).bind fun z => cmpD o' y z else .ok (.bool false)) :=
  PE.imp (pe_chain (op_cmp hr o) (op_cmp hr o') ha hb hc hm) chain_read
theorem t_chain {a b c : Expr} {ka kb kc j : Nat} {fa fb fc : Rho → M D} (hr : Room j X.A) (o o' : Cop) (ha : PE X a (TE' X W ka fa)) (hb : PE X b (TE' X W kb fb)) (hc : PE X c (TE' X W kc fc)) (hm : lastMarks [copOf o, copOf o'] [b, c] = false) :
    PT X (.Compare a [copOf o, copOf o'] [b, c] pos) (TT' X W fun ρ => evB ((fa ρ).bind fun x => (fb ρ).bind fun y => (evB (cmpD o x y)).bind fun k => if k = true then (fc ρ).bind fun z => cmpD o' y z else .ok (.bool false))) :=
  t_of (k := 1) (pt_chain (op_cmp hr o) (op_cmp hr o') ha hb hc hm) chain_read
theorem s_and {a b : Expr} {rest : List Expr} {ka kb : Nat} {fa fb : Rho → M D} (ha : PE X a (TE' X W ka fa)) (hb : PE X (.BoolOp .And (b :: rest) pos) (TE' X W kb fb)) :
    PE X (.BoolOp .And (a :: b :: rest) pos) (TE' X W kb fun ρ => (evB (fa ρ)).bind fun k => if k = true then fb ρ else .ok (.bool false)) := by
  refine PE.imp (pe_and ha hb) fun σ H Q ⟨F0, H0, F, ρ, r, p⟩ => ⟨F0, H0, F, ρ, r, PostE.toB (PostE.seqB p fun c F1 H1 g1 p1 => ?_)⟩
  cases c with
  | true => rw [if_pos rfl] at p1 ⊢; exact ⟨F0, H0, F1, ρ, r.grow g1, p1⟩
  | false => rw [if_neg Bool.false_ne_true] at p1 ⊢; exact p1.flat g1.fh (.bool false) rfl
theorem s_or {a b : Expr} {rest : List Expr} {ka kb : Nat} {fa fb : Rho → M D} (ha : PE X a (TE' X W ka fa)) (hb : PE X (.BoolOp .Or (b :: rest) pos) (TE' X W kb fb)) :
    PE X (.BoolOp .Or (a :: b :: rest) pos) (TE' X W kb fun ρ => (evB (fa ρ)).bind fun k => if k = true then .ok (.bool true) else fb ρ) := by
  refine PE.imp (pe_or ha hb) fun σ H Q ⟨F0, H0, F, ρ, r, p⟩ => ⟨F0, H0, F, ρ, r, PostE.toB (PostE.seqB p fun c F1 H1 g1 p1 => ?_)⟩
  cases c with
  | true => rw [if_pos rfl] at p1 ⊢; exact p1.flat g1.fh (.bool true) rfl
  | false => rw [if_neg Bool.false_ne_true] at p1 ⊢; exact ⟨F0, H0, F1, ρ, r.grow g1, p1⟩
theorem s_not {a : Expr} {ka : Nat} {fa : Rho → M D} (ha : PE X a (TE' X W ka fa)) : PE X (.UnaryOp .Not a pos) (TE' X W 0 fun ρ => (evB (fa ρ)).bind fun k => .ok (.bool (!k))) :=
  PE.imp (pe_not ha) fun σ H Q ⟨F0, H0, F, ρ, r, p⟩ => ⟨F0, H0, F, ρ, r, PostE.toB (PostE.seqB p fun c F1 H1 g1 p1 => p1.flat g1.fh (.bool _) rfl)⟩
theorem s_neg {a : Expr} {ka : Nat} {fa : Rho → M D} (ha : PE X a (TE' X W ka fa)) : PE X (.UnaryOp .USub a pos) (TE' X W 0 fun ρ => (fa ρ).bind fun x => match x with | .int i => .ok (.int (-i)) | _ => .bad) := by
  refine PE.imp (pe_un un_neg ha) fun σ H Q ⟨F0, H0, F, ρ, r, p⟩ => ⟨F0, H0, F, ρ, r, PostE.seq p fun x v F1 H1 g1 r1 p1 => ?_⟩
  cases x with
  | int i => exact ⟨i, r1.bv.int_inv, p1.flat g1.fh (.int _) rfl⟩
  | _ => exact p1.elim
theorem s_ite {c a b : Expr} {k : Nat} {fc : Rho → M Bool} {fa fb : Rho → M D} (hc : PT X c (TT' X W fc)) (ha : PE X a (TE' X W k fa)) (hb : PE X b (TE' X W k fb)) :
    PE X (.IfExp c a b pos) (TE' X W k fun ρ => (fc ρ).bind fun q => if q = true then fa ρ else fb ρ) := by
  refine PE.imp (pe_ifExp hc ha hb) fun σ H Q ⟨F0, H0, F, ρ, r, p⟩ => ⟨F0, H0, F, ρ, r, PostE.seqB p fun q F1 H1 g1 p1 => ?_⟩
  cases q with
  | true => rw [if_pos rfl] at p1 ⊢; exact ⟨F0, H0, F1, ρ, r.grow g1, p1⟩
  | false => rw [if_neg Bool.false_ne_true] at p1 ⊢; exact ⟨F0, H0, F1, ρ, r.grow g1, p1⟩
theorem s_share {e : Expr} {f : Rho → M D} (hk : k = 0 ∨ k = 1) (h : PE X e (TE' X W k f)) : PE X e (TE' X W 0 f) := by
  refine PE.imp h fun σ H Q ⟨F0, H0, F, ρ, r, p⟩ => ⟨F0, H0, F, ρ, r, ?_⟩
  have p : PostE X W F H σ 0 (f ρ) Q := p
  cases e : f ρ with
  | ok d =>
    rw [e] at p
    intro v F1 H1 g1 r1
    obtain ⟨F2, g2, _, h2⟩ := r1.share hk g1
    exact p v F2 H1 g2 (by unfold Res; rw [if_pos rfl]; exact h2)
  | ex c fs => rw [e] at p; exact p
  | bad => rw [e] at p; exact p
end
end DL

/-! DExp2: displays, calls, built-ins, slices, tests. -/
namespace DL
open PySem PySem.Spec PyProof.Rows L2
section
variable {K : Fg} {F H F1 H1 F2 H2 : Hp} {v : V} {d : D} {vs : List V} {ds : List D} {ks : List Nat} {k : Nat}
/-- what may be shared from now on -/
def Shb (K : Fg) (F H1 H : Hp) (v : V) (d : D) : Prop := DV K F v d ∨ ∃ a, v = .ref a ∧ H a = none ∧ Root K F H1 a d
theorem Shb.mono (h : Shb K F1 H1 H v d) (s : Sub F1 F2) : Shb K F2 H1 H v d := by
  rcases h with h | ⟨a, e, n, r⟩
  · exact .inl (h.mono s)
  · exact .inr ⟨a, e, n, r.mono s fun _ q => q⟩
theorem Shb.share (h : Shb K F1 H1 H v d) (g : Grow F H F1 H1) : ∃ F2, Grow F H F2 H1 ∧ Sub F1 F2 ∧ DV K F2 v d := by
  rcases h with h | ⟨a, e, n, r⟩
  · exact ⟨F1, g, Sub.refl _, h⟩
  · cases d with
    | list ds =>
      obtain ⟨vs, h1, h2⟩ := r
      cases q : F1 a with
      | some o =>
        have := g.fh a o q
        rw [h1] at this
        cases this
        exact ⟨F1, g, Sub.refl _, e ▸ DV.lst (.inl (.inl q)) h2⟩
      | none =>
        refine ⟨upd F1 a (.lst vs), ⟨g.f.trans (sub_upd q), g.h, fun b o z => ?_, fun b z => ?_, fun b o u z => ?_⟩, sub_upd q, e ▸ DV.lst (.inl (.inl upd_same)) (h2.mono (sub_upd q))⟩
        · by_cases hb : b = a
          · subst hb; rw [upd_same] at z; cases z; exact h1
          · rw [upd_ne hb] at z; exact g.fh b o z
        · by_cases hb : b = a
          · subst hb; exact .inr n
          · rw [upd_ne hb] at z; exact g.new b z
        · by_cases hb : b = a
          · subst hb; rw [upd_same] at z; cases z
          · rw [upd_ne hb] at z; exact g.fz b o u z
    | _ => exact r.elim
theorem Res.shb (h : Res k K F1 H1 H v d) (hk : k = 0 ∨ k = 1) : Shb K F1 H1 H v d := by
  unfold Res at h
  rcases hk with rfl | rfl
  · rw [if_pos rfl] at h; exact .inl h
  · rw [if_neg (by decide), if_pos rfl] at h
    split at h
    · obtain ⟨a, e, f, n, r⟩ := h; exact .inr ⟨a, e, n, r⟩
    · exact .inl h
def Shs (K : Fg) (F H1 H : Hp) : List V → List D → Prop
  | [], [] => True
  | v :: vs, d :: ds => Shb K F H1 H v d ∧ Shs K F H1 H vs ds
  | _, _ => False
theorem Shs.mono (s : Sub F1 F2) : ∀ {vs : List V} {ds : List D}, Shs K F1 H1 H vs ds → Shs K F2 H1 H vs ds
  | [], [], _ => trivial
  | _ :: _, _ :: _, h => ⟨h.1.mono s, Shs.mono s h.2⟩
  | [], _ :: _, h => h.elim
  | _ :: _, [], h => h.elim
theorem Shs.share : ∀ {vs : List V} {ds : List D} {F1 : Hp}, Shs K F1 H1 H vs ds → Grow F H F1 H1 → ∃ F2, Grow F H F2 H1 ∧ Sub F1 F2 ∧ DVs K F2 vs ds
  | [], [], F1, _, g => ⟨F1, g, Sub.refl _, .nil⟩
  | _ :: _, _ :: _, F1, h, g => by
    obtain ⟨F2, g2, s2, h2⟩ := h.1.share g
    obtain ⟨F3, g3, s3, h3⟩ := Shs.share (h.2.mono s2) g2
    exact ⟨F3, g3, s2.trans s3, .cons (h2.mono s3) h3⟩
  | [], _ :: _, _, h, _ => h.elim
  | _ :: _, [], _, h, _ => h.elim
theorem ResL.shs (h : ResL K F1 H1 H ks vs ds) (hk : ∀ k ∈ ks, k = 0 ∨ k = 1) : Shs K F1 H1 H vs ds := by
  induction h with
  | nil => trivial
  | cons r _ ih => exact ⟨r.shb (hk _ List.mem_cons_self), ih fun k q => hk k (List.mem_cons_of_mem _ q)⟩
theorem BV.move (h : BV K F1 H1 v d) (s : Sub F1 F2) (t : Sub F2 H1) : BV K F2 H1 v d := by
  rcases h with h | ⟨a, e, f, r⟩
  · exact .inl (h.mono s)
  · cases d with
    | list ds =>
      obtain ⟨vs, h1, h2⟩ := r
      cases q : F2 a with
      | none => exact .inr ⟨a, e, q, vs, h1, h2.mono s⟩
      | some o =>
        have := t a o q
        rw [h1] at this
        cases this
        exact .inl (e ▸ DV.lst (.inl (.inl q)) (h2.mono s))
    | _ => exact r.elim
/-- arguments: shared, or looked at -/
inductive ArgsR (K : Fg) (F H : Hp) : List Pm → List V → List D → Prop
  | nil : ArgsR K F H [] [] []
  | sh {ms : List Pm} {v : V} {vs : List V} {d : D} {ds : List D} : DV K F v d → ArgsR K F H ms vs ds → ArgsR K F H (.sh :: ms) (v :: vs) (d :: ds)
  | bor {ms : List Pm} {v : V} {vs : List V} {d : D} {ds : List D} : BV K F H v d → ArgsR K F H ms vs ds → ArgsR K F H (.bor :: ms) (v :: vs) (d :: ds)
theorem ArgsR.move {ms : List Pm} (h : ArgsR K F1 H1 ms vs ds) (s : Sub F1 F2) (t : Sub F2 H1) : ArgsR K F2 H1 ms vs ds := by
  induction h with
  | nil => exact .nil
  | sh h _ ih => exact .sh (h.mono s) ih
  | bor h _ ih => exact .bor (h.move s t) ih
theorem ArgsR.length {ms : List Pm} (h : ArgsR K F H ms vs ds) : vs.length = ms.length ∧ ds.length = ms.length := by
  induction h with
  | nil => exact ⟨rfl, rfl⟩
  | sh _ _ ih => exact ⟨by rw [List.length_cons, List.length_cons, ih.1], by rw [List.length_cons, List.length_cons, ih.2]⟩
  | bor _ _ ih => exact ⟨by rw [List.length_cons, List.length_cons, ih.1], by rw [List.length_cons, List.length_cons, ih.2]⟩
/-- the arguments' kinds go with the parameters' -/
def fitK : List Pm → List Nat → Bool
  | [], [] => true
  | .sh :: ms, k :: ks => decide (k = 0 ∨ k = 1) && fitK ms ks
  | .bor :: ms, _ :: ks => fitK ms ks
  | _, _ => false
theorem ResL.grow (h : ResL K F1 H1 H ks vs ds) (g : Grow F1 H1 F2 H2) : ResL K F2 H2 H ks vs ds := by
  induction h with
  | nil => exact .nil
  | cons r _ ih => exact .cons (r.grow g) ih
/-- as Res, whatever was shared since -/
inductive ArgQ (K : Fg) (F1 H1 H : Hp) : List Pm → List V → List D → Prop
  | nil : ArgQ K F1 H1 H [] [] []
  | sh {ms : List Pm} {v : V} {vs : List V} {d : D} {ds : List D} : Shb K F1 H1 H v d → ArgQ K F1 H1 H ms vs ds → ArgQ K F1 H1 H (.sh :: ms) (v :: vs) (d :: ds)
  | bor {ms : List Pm} {v : V} {vs : List V} {d : D} {ds : List D} : BV K F1 H1 v d → ArgQ K F1 H1 H ms vs ds → ArgQ K F1 H1 H (.bor :: ms) (v :: vs) (d :: ds)
theorem ArgQ.of (h : ResL K F1 H1 H ks vs ds) : ∀ {ms : List Pm}, fitK ms ks = true → ArgQ K F1 H1 H ms vs ds := by
  induction h with
  | nil =>
    intro ms e
    cases ms with
    | nil => exact .nil
    | cons m ms => cases m <;> cases e
  | @cons k ks v vs d ds r t ih =>
    intro ms e
    cases ms with
    | nil => cases e
    | cons m ms =>
      cases m with
      | sh =>
        unfold fitK at e
        rw [Bool.and_eq_true] at e
        exact .sh (r.shb (of_decide_eq_true e.1)) (ih e.2)
      | bor => exact .bor r.bv (ih e)
theorem ArgQ.move {ms : List Pm} (h : ArgQ K F1 H1 H ms vs ds) (s : Sub F1 F2) (t : Sub F2 H1) : ArgQ K F2 H1 H ms vs ds := by
  induction h with
  | nil => exact .nil
  | sh h _ ih => exact .sh (h.mono s) ih
  | bor h _ ih => exact .bor (h.move s t) ih
theorem ArgQ.share : ∀ {ms : List Pm} {vs : List V} {ds : List D} {F1 : Hp}, ArgQ K F1 H1 H ms vs ds → Grow F H F1 H1 → ∃ F2, Grow F H F2 H1 ∧ Sub F1 F2 ∧ ArgsR K F2 H1 ms vs ds := by
  intro ms
  induction ms with
  | nil => intro vs ds F1 h g; cases h; exact ⟨F1, g, Sub.refl _, .nil⟩
  | cons m ms ih =>
    intro vs ds F1 h g
    cases h with
    | sh h t =>
      obtain ⟨F2, g2, s2, h2⟩ := h.share g
      obtain ⟨F3, g3, s3, h3⟩ := ih (t.move s2 g2.fh) g2
      exact ⟨F3, g3, s2.trans s3, .sh (h2.mono s3) h3⟩
    | bor h t =>
      obtain ⟨F3, g3, s3, h3⟩ := ih t g
      exact ⟨F3, g3, s3, .bor (h.move s3 g3.fh) h3⟩
theorem ResL.bvs (h : ResL K F1 H1 H ks vs ds) : BVs K F1 H1 vs ds := by
  induction h with
  | nil => exact .nil
  | cons r _ ih => exact .cons r.bv ih
end
/-- what a def promises, by its plain meaning -/
def spOf (K : Fg) (mg : Str → Option Value) (ms : List Pm) (m : List D → M D) : Sp := fun vs H Q E => ∃ F ds, Sub F H ∧ ArgsR K F H ms vs ds ∧ match m ds with
  | .ok d => ∀ v F' H', Grow F H F' H' → DV K F' v d → Q v H'
  | .ex c fs => ∀ F' H' cls dd, Grow F H F' H' → XR mg K F' H' c fs cls dd → E cls dd H'
  | .bad => False
theorem star_any : ∀ {es : List Expr} {env : Env} {pos : Pos}, (∀ e ∈ es, ∀ x p, e ≠ .Starred x p) → (backTo pos (starEach es env)).any (·.1) = false
  | [], _, _, _ => rfl
  | e :: es, env, pos, h => by
    have e1 : starEach (e :: es) env = (false, eval e env) :: starEach es env := by
      cases e <;> first | rfl | exact absurd rfl (h _ List.mem_cons_self _ _)
    rw [e1]
    have ih := star_any (es := es) (env := env) (pos := pos) fun x hx => h x (List.mem_cons_of_mem _ hx)
    unfold backTo at ih ⊢
    rw [List.map_cons, List.any_cons, ih]
    rfl
theorem star_cons {e : Expr} (h : ∀ x p, e ≠ .Starred x p) (es : List Expr) (env : Env) : starEach (e :: es) env = (false, eval e env) :: starEach es env := by
  cases e <;> first | rfl | exact absurd rfl (h _ _)
section
variable {X : Cx} {W : WX} {F H F1 H1 : Hp} {σ : St} {k k1 : Nat} {ks : List Nat} {Q R : VK} {pos : Pos}
theorem PostL.nil {QL : List V → Hp → Prop} (p : PostL X W F H σ [] (.ok []) QL) (s : Sub F H) : QL [] H := p [] F H (Grow.refl s) .nil
theorem a_nil : PA X [] (TA' X W [] fun _ => .ok []) := PA.imp pa_nil fun σ H Q ⟨F0, H0, F, ρ, r, p⟩ => PostL.nil p r.sub
theorem a_cons {e : Expr} {es : List Expr} {f : Rho → M D} {fs : Rho → M (List D)} (h : PE X e (TE' X W k f)) (t : PA X es (TA' X W ks fs)) (ns : ∀ x p, e ≠ .Starred x p) :
    PA X (e :: es) (TA' X W (k :: ks) fun ρ => (f ρ).bind fun d => (fs ρ).bind fun ds => .ok (d :: ds)) := by
  refine PA.imp (pa_cons h t (star_cons ns es _)) fun σ H Q ⟨F0, H0, F, ρ, r, p⟩ => ⟨F0, H0, F, ρ, r, ?_⟩
  have p : PostL X W F H σ (k :: ks) ((f ρ).bind fun d => (fs ρ).bind fun ds => .ok (d :: ds)) Q := p
  cases e1 : f ρ with
  | ex c fs' => rw [e1] at p; exact p
  | bad => rw [e1] at p; exact p
  | ok d =>
    rw [e1] at p
    intro v F1 H1 g1 r1
    refine ⟨F0, H0, F1, ρ, r.grow g1, ?_⟩
    have p : PostL X W F H σ (k :: ks) ((fs ρ).bind fun ds => .ok (d :: ds)) Q := p
    cases e2 : fs ρ with
    | ex c fs' => rw [e2] at p; exact fun F' H' cls dd g x => p F' H' cls dd (g1.trans g) x
    | bad => rw [e2] at p; exact p
    | ok ds =>
      rw [e2] at p
      intro vs F2 H2 g2 r2
      refine p (v :: vs) F2 H2 (g1.trans g2) (.cons (r1.grow g2) ?_)
      have old : ∀ {ks vs ds}, ResL X.K F2 H2 H1 ks vs ds → ResL X.K F2 H2 H ks vs ds := by
        intro ks vs ds r
        induction r with
        | nil => exact .nil
        | cons h _ ih => exact .cons (h.old g1.h) ih
      exact old r2
/-- the outcome of a list of arguments, from where it began -/
theorem PostE.seqL0 {m : M (List D)} {f : List D → M D} {R : List V → Hp → Prop} (p : PostE X W F H σ k (m.bind f) Q)
    (h : ∀ ds vs F1 H1, Grow F H F1 H1 → ResL X.K F1 H1 H ks vs ds → PostE X W F H σ k (f ds) Q → R vs H1) : PostL X W F H σ ks m R := by
  cases m with
  | ok d => exact fun v F' H' g r => h d v F' H' g r p
  | ex c fs => exact p
  | bad => exact p
theorem s_tup {es : List Expr} {j : Nat} {fs : Rho → M (List D)} (h : PA X es (TA' X W ks fs)) (hk : ∀ k ∈ ks, k = 0 ∨ k = 1) : PE X (.Tuple es j pos) (TE' X W 0 fun ρ => (fs ρ).bind fun ds => mkTup ds) := by
  refine PE.imp (pe_tup h) fun σ H Q ⟨F0, H0, F, ρ, r, p⟩ => ⟨F0, H0, F, ρ, r, PostE.seqL0 p fun ds vs F1 H1 g1 r1 p1 => ?_⟩
  obtain ⟨F2, g2, s2, t⟩ := (r1.shs hk).share g1
  unfold mkTup at p1
  split at p1
  · rename_i hz
    refine ⟨by rw [t.length, ← line_eq]; exact hz, fun q hq => p1 _ _ _ (g2.trans (Grow.laid g2.fh hq)) ?_⟩
    unfold Res
    rw [if_pos rfl]
    exact .tup (.inl (.inl upd_same)) (t.mono (sub_upd (g2.fh.none hq)))
  · exact p1.elim
theorem s_lst {es : List Expr} {fs : Rho → M (List D)} (h : PA X es (TA' X W ks fs)) (hk : ∀ k ∈ ks, k = 0 ∨ k = 1) : PE X (.List es pos) (TE' X W 1 fun ρ => (fs ρ).bind fun ds => mkLst ds) := by
  refine PE.imp (pe_lst h) fun σ H Q ⟨F0, H0, F, ρ, r, p⟩ => ⟨F0, H0, F, ρ, r, PostE.seqL0 p fun ds vs F1 H1 g1 r1 p1 => ?_⟩
  obtain ⟨F2, g2, s2, t⟩ := (r1.shs hk).share g1
  unfold mkLst at p1
  split at p1
  · rename_i hz
    exact ⟨by rw [t.length, ← line_eq]; exact hz, fun q hq => p1 _ _ _ (g2.trans (Grow.beside g2.fh hq)) (.fresh (g2.h.none hq) (g2.fh.none hq) upd_same t)⟩
  · exact p1.elim
/-- a def of the module -/
structure FnG (X : Cx) (k : Nat) (x : Str) (ms : List Pm) (m : List D → M D) : Prop where
  ex : ∃ f fd ps, FnOk X.prog X.w X.K X.mg X.base (L2.CX X.prog X.w) k f fd ps (spOf X.K X.mg ms m) ∧ X.mg x = some (.ref f) ∧ PySem.W.keepIn X.K (.ref f) = true ∧ Binds X.K fd ps []
theorem s_call {x : Str} {px : Pos} {e : Expr} {es : List Expr} {fs : Rho → M (List D)} {ms : List Pm} {m : List D → M D} {j : Nat} (hf : FnG X j x ms m) (hr : Room j X.A) (tk : Takes X W) (hg : Gl X x) (hdb : (x == ("__debug__" : Str)) = false)
    (h : PA X (e :: es) (TA' X W ks fs)) (ns : ∀ e' ∈ e :: es, ∀ x p, e' ≠ .Starred x p) (hk : fitK ms ks = true) : PE X (.Call (.Name x px) (e :: es) [] pos) (TE' X W 0 fun ρ => (fs ρ).bind fun ds => m ds) := by
  obtain ⟨f, fd, ps, F, gm, kp, bd⟩ := hf.ex
  refine PE.imp (pe_callS F hr hg gm kp bd (fun σ => passAt tk σ) h hdb (star_cons (ns e List.mem_cons_self) es _) (star_any fun e' he' => ns e' (List.mem_cons_of_mem _ he')))
    fun σ H Q ⟨F0, H0, F, ρ, r, p⟩ => ⟨F0, H0, F, ρ, r, PostE.seqL0 p fun ds vs F1 H1 g1 r1 p1 => ?_⟩
  obtain ⟨F2, g2, s2, t⟩ := (ArgQ.of r1 hk).share g1
  refine ⟨F2, ds, g2.fh, t, ?_⟩
  cases e1 : m ds with
  | ok d =>
    rw [e1] at p1
    exact fun v F' H' g hd => p1 v F' H' (g2.trans g) (by unfold Res; rw [if_pos rfl]; exact hd)
  | ex c fs' =>
    rw [e1] at p1
    exact fun F' H' cls dd g hx => p1 F' H' cls dd (g2.trans g) hx
  | bad => rw [e1] at p1; exact p1
/-! a call that is handed no lists: a list that it tells is new -/
/-- the written part has no lists -/
def nlK (K : Fg) : Bool := K.all fun p => !(p.2.cls == .type "list")
theorem lookup_mem {K : Fg} {a : Addr} {o : Obj} (h : K.lookup a = some o) : ∃ b, (b, o) ∈ K := by
  induction K with
  | nil => cases h
  | cons p K ih =>
    rw [List.lookup_cons] at h
    split at h
    · cases h; exact ⟨p.1, List.mem_cons_self⟩
    · obtain ⟨b, hb⟩ := ih h; exact ⟨b, List.mem_cons_of_mem _ hb⟩
theorem nlK_rd {K : Fg} {F : Hp} {a : Addr} {xs : List V} (n : nlK K = true) (h : SqL K F a xs) : Rd F a (.lst xs) := by
  rcases h with h | ⟨o, its, m, h1, h2, _⟩
  · exact h
  · obtain ⟨b, hb⟩ := lookup_mem h1
    have := List.all_eq_true.mp n _ hb
    rw [h2] at this
    cases this
def cutO : HO → Option HO
  | .lst _ => none
  | .frz _ (.lst _) => none
  | o => some o
def tupF (F : Hp) : Hp := fun a => (F a).bind cutO
theorem tupF_some {F : Hp} {a : Addr} {o : HO} (h : tupF F a = some o) : F a = some o := by
  unfold tupF at h
  cases e : F a with
  | none => rw [e] at h; cases h
  | some u =>
    rw [e] at h
    have h : cutO u = some o := h
    unfold cutO at h
    split at h
    · cases h
    · cases h
    · exact h
theorem tupF_lst {F : Hp} {a : Addr} {xs : List V} : tupF F a ≠ some (.lst xs) := fun h => by
  have e := tupF_some h
  unfold tupF at h
  rw [e] at h
  cases h
theorem tupF_frz {F : Hp} {a : Addr} {o : Obj} {xs : List V} : tupF F a ≠ some (.frz o (.lst xs)) := fun h => by
  have e := tupF_some h
  unfold tupF at h
  rw [e] at h
  cases h
theorem tupF_tup {K : Fg} {F : Hp} {a : Addr} {xs : List V} (h : SqT K F a xs) : SqT K (tupF F) a xs := by
  rcases h with (h | ⟨o, h⟩) | h
  · exact .inl (.inl (by unfold tupF; rw [h]; rfl))
  · exact .inl (.inr ⟨o, by unfold tupF; rw [h]; rfl⟩)
  · exact .inr h
mutual
theorem Dq.cut {K : Fg} {F : Hp} : ∀ (d : PyData) (v : V), noL d = true → Dq K F v d → Dq K (tupF F) v d
  | .none, _, _, h => by cases h; exact .non
  | .bool b, _, _, h => by cases h; exact .bl b
  | .int i, _, _, h => by cases h; exact .int i
  | .str x, _, _, h => by cases h; exact .str x
  | .list ds, _, n, h => by cases n
  | .tuple ds, _, n, h => by
    cases h with
    | tup hs ha => exact .tup (tupF_tup hs) (DqAll.cut ds _ n ha)
  | .dict _, _, n, h => by cases n
theorem DqAll.cut {K : Fg} {F : Hp} : ∀ (ds : List PyData) (vs : List V), noLs ds = true → DqAll K F vs ds → DqAll K (tupF F) vs ds
  | [], _, _, h => by cases h; exact .nil
  | d :: ds, _, n, h => by
    have n : (noL d && noLs ds) = true := n
    rw [Bool.and_eq_true] at n
    cases h with
    | cons h1 h2 => exact .cons (Dq.cut d _ n.1 h1) (DqAll.cut ds _ n.2 h2)
end
theorem ArgsR.cut {K : Fg} {F H : Hp} {vs : List V} {ds : List D} {ms : List Pm} (h : ArgsR K F H ms vs ds) : noLs ds = true → ArgsR K (tupF F) H ms vs ds := by
  induction h with
  | nil => exact fun _ => .nil
  | @sh ms v vs d ds h _ ih =>
    intro n
    have n : (noL d && noLs ds) = true := n
    rw [Bool.and_eq_true] at n
    exact .sh ⟨Dq.cut _ _ n.1 h.dq, h.lay⟩ (ih n.2)
  | @bor ms v vs d ds h _ ih =>
    intro n
    have n : (noL d && noLs ds) = true := n
    rw [Bool.and_eq_true] at n
    rcases h with h | ⟨a, _, _, r⟩
    · exact .bor (.inl ⟨Dq.cut _ _ n.1 h.dq, h.lay⟩) (ih n.2)
    · cases d <;> first | exact r.elim | cases n.1
/-- what stood and what a call without lists made -/
def uniF (F G : Hp) : Hp := fun a => match F a with
  | some o => some o
  | none => G a
theorem Grow.uni {F2 H1 F' H' : Hp} (g : Grow (tupF F2) H1 F' H') (s : Sub F2 H1) : Grow F2 H1 (uniF F2 F') H' ∧ Sub F' (uniF F2 F') := by
  have u1 : ∀ {a o}, F2 a = some o → uniF F2 F' a = some o := fun {a o} h => by unfold uniF; rw [h]
  have u2 : ∀ {a}, F2 a = none → uniF F2 F' a = F' a := fun {a} h => by unfold uniF; rw [h]
  have hs : Sub F' (uniF F2 F') := fun a o h => by
    cases e : F2 a with
    | none => rw [u2 e]; exact h
    | some u => rw [u1 e, ← g.h _ _ (s _ _ e), g.fh _ _ h]
  refine ⟨⟨fun a o h => u1 h, g.h, fun a o h => ?_, fun a h => ?_, fun a o u h => ?_⟩, hs⟩
  · cases e : F2 a with
    | none => rw [u2 e] at h; exact g.fh _ _ h
    | some u => rw [u1 e] at h; cases h; exact g.h _ _ (s _ _ e)
  · cases e : F2 a with
    | none =>
      rw [u2 e] at h
      rcases g.new a h with z | z
      · exfalso
        cases q : tupF F2 a with
        | none => exact z q
        | some o => rw [tupF_some q] at e; cases e
      · exact .inr z
    | some u => exact .inl (by simp)
  · cases e : F2 a with
    | none => rw [u2 e] at h; have := tupF_some (g.fz _ _ _ h); rw [e] at this; cases this
    | some u' => rw [u1 e] at h; exact h
/-- a new list of such a call -/
theorem Grow.newL {K : Fg} {F2 H1 F' H' : Hp} {a : Addr} {ws : List V} (n : nlK K = true) (g : Grow (tupF F2) H1 F' H') (s : Sub F2 H1) (h : SqL K F' a ws) : F2 a = none ∧ H1 a = none ∧ H' a = some (.lst ws) ∧ F' a = some (.lst ws) := by
  have e : F' a = some (.lst ws) := by
    rcases nlK_rd n h with h | ⟨o, h⟩
    · exact h
    · exact absurd (g.fz _ _ _ h) tupF_frz
  have h1 : H1 a = none := by
    rcases g.new a (by rw [e]; simp) with z | z
    · exfalso
      cases q : tupF F2 a with
      | none => exact z q
      | some o =>
        have := g.f _ _ q
        rw [e] at this
        cases this
        exact tupF_lst q
    · exact z
  exact ⟨s.none h1, h1, g.fh _ _ e, e⟩
theorem DV.flat {K : Fg} {F F' : Hp} {v : V} {d : D} (h : DV K F v d) (n : flatD d = true) : DV K F' v d := by
  refine ⟨?_, h.lay⟩
  have := h.dq
  cases d <;> first | cases n | skip
  all_goals (cases this; constructor)
theorem DVs.flat {K : Fg} {F F' : Hp} : ∀ {vs : List V} {ds : List D}, DVs K F vs ds → (ds.all flatD) = true → DVs K F' vs ds
  | vs, [], h, _ => by rw [h.unnil]; exact .nil
  | vs, d :: ds, h, n => by
    rw [List.all_cons, Bool.and_eq_true] at n
    obtain ⟨v, r, rfl, h1, h2⟩ := h.uncons
    exact .cons (h1.flat n.1) (h2.flat n.2)
theorem XR.uni {mg : Str → Option Value} {K : Fg} {F2 H1 F' H' : Hp} {c : Str} {fs : List (Str × D)} {cls : Value} {dd : Option Addr} (hx : XR mg K F' H' c fs cls dd) (g : Grow (tupF F2) H1 F' H') (s : Sub F2 H1) : XR mg K (uniF F2 F') H' c fs cls dd := by
  have su := (g.uni s).2
  obtain ⟨C, c1, c2, c3⟩ := hx
  refine ⟨C, c1, c2, ?_⟩
  rcases c3 with c3 | ⟨d, fv, d1, d2, d3, d4, d5, d6⟩
  · exact .inl c3
  · refine .inr ⟨d, fv, d1, d2, ?_, d4, d5, d6.mono su⟩
    have q : F2 d = none := by
      cases q : F2 d with
      | none => rfl
      | some o =>
        have := g.h _ _ (s _ _ q)
        rw [d4] at this
        cases this
        have : tupF F2 d = some (.xd fv) := by unfold tupF; rw [q]; rfl
        rw [g.f _ _ this] at d3
        cases d3
    show uniF F2 F' d = none
    unfold uniF
    rw [q]
    exact d3
theorem s_fcall {x : Str} {px : Pos} {e : Expr} {es : List Expr} {fs : Rho → M (List D)} {ms : List Pm} {m : List D → M D} {j : Nat} (nl : nlK X.K = true) (hf : FnG X j x ms m) (hr : Room j X.A) (tk : Takes X W) (hg : Gl X x) (hdb : (x == ("__debug__" : Str)) = false)
    (h : PA X (e :: es) (TA' X W ks fs)) (ns : ∀ e' ∈ e :: es, ∀ x p, e' ≠ .Starred x p) (hk : fitK ms ks = true) : PE X (.Call (.Name x px) (e :: es) [] pos) (TE' X W 1 fun ρ => (fs ρ).bind fun ds => if noLs ds = true then (m ds).bind frD else .bad) := by
  obtain ⟨f, fd, ps, F, gm, kp, bd⟩ := hf.ex
  refine PE.imp (pe_callS F hr hg gm kp bd (fun σ => passAt tk σ) h hdb (star_cons (ns e List.mem_cons_self) es _) (star_any fun e' he' => ns e' (List.mem_cons_of_mem _ he')))
    fun σ H Q ⟨F0, H0, F, ρ, r, p⟩ => ⟨F0, H0, F, ρ, r, PostE.seqL0 p fun ds vs F1 H1 g1 r1 p1 => ?_⟩
  obtain ⟨F2, g2, s2, t⟩ := (ArgQ.of r1 hk).share g1
  split at p1
  case isFalse => exact p1.elim
  rename_i hn
  refine ⟨tupF F2, ds, fun a o h => g2.fh _ _ (tupF_some h), t.cut hn, ?_⟩
  cases e1 : m ds with
  | ok d =>
    rw [e1] at p1
    refine fun v F' H' g hd => ?_
    obtain ⟨gu, su⟩ := g.uni g2.fh
    have gg := g2.trans gu
    cases d with
    | list xs =>
      have p1 : PostE X W _ _ σ 1 (if (xs.all flatD) = true then .ok (.list xs) else .bad) Q := p1
      split at p1
      case isFalse => exact p1.elim
      rename_i hx
      obtain ⟨a, ws, rfl, hs, hw⟩ := hd.lst_inv
      obtain ⟨n1, n2, n3, _⟩ := g.newL nl g2.fh hs
      refine p1 _ F2 H' (g2.trans ⟨Sub.refl _, g.h, g2.fh.trans g.h, fun _ z => .inl z, fun _ _ _ z => z⟩) (.fresh (g2.h.none n2) n1 n3 (hw.flat hx))
    | dict k => exact p1.elim
    | none => exact p1 _ _ _ gg (.flat (hd.mono su) rfl)
    | bool b => exact p1 _ _ _ gg (.flat (hd.mono su) rfl)
    | int i => exact p1 _ _ _ gg (.flat (hd.mono su) rfl)
    | str x => exact p1 _ _ _ gg (.flat (hd.mono su) rfl)
    | tuple xs => exact p1 _ _ _ gg (.flat (hd.mono su) rfl)
  | ex c fs' =>
    rw [e1] at p1
    refine fun F' H' cls dd g hx => ?_
    obtain ⟨gu, su⟩ := g.uni g2.fh
    exact p1 _ _ cls dd (g2.trans gu) (hx.uni g g2.fh)
  | bad => rw [e1] at p1; exact p1
theorem s_bltB {x : Str} {px : Pos} {e : Expr} {es : List Expr} {fs : Rho → M (List D)} {b : Blt} {id : String} (hc : CallR X (.builtin id) (rBD X.K b)) (hg : Gl X x) (hm : X.mg x = none) (hv : bootBuiltins x = some (.builtin id)) (hn : x ≠ "__name__") (hdb : (x == ("__debug__" : Str)) = false)
    (h : PA X (e :: es) (TA' X W ks fs)) (ns : ∀ e' ∈ e :: es, ∀ x p, e' ≠ .Starred x p) : PE X (.Call (.Name x px) (e :: es) [] pos) (TE' X W 1 fun ρ => (fs ρ).bind fun ds => bltD b ds) :=
  PE.imp (pe_callB hc hg hm hv h hn hdb (star_cons (ns e List.mem_cons_self) es _) (star_any fun e' he' => ns e' (List.mem_cons_of_mem _ he')))
    fun σ H Q ⟨F0, H0, F, ρ, r, p⟩ => ⟨F0, H0, F, ρ, r, PostE.seqL p fun ds vs F1 H1 g1 r1 p1 => ⟨F1, ds, g1.fh, r1.bvs, p1.toV (noex_blt b ds)⟩⟩
theorem s_bltT {x : Str} {px : Pos} {e : Expr} {es : List Expr} {fs : Rho → M (List D)} {b : Blt} {id : String} (hc : CallR X (.type id) (rBD X.K b)) (hg : Gl X x) (hm : X.mg x = none) (hv : bootBuiltins x = some (.type id)) (hn : x ≠ "__name__") (hdb : (x == ("__debug__" : Str)) = false)
    (h : PA X (e :: es) (TA' X W ks fs)) (ns : ∀ e' ∈ e :: es, ∀ x p, e' ≠ .Starred x p) : PE X (.Call (.Name x px) (e :: es) [] pos) (TE' X W 1 fun ρ => (fs ρ).bind fun ds => bltD b ds) :=
  PE.imp (pe_callTy hc hg hm hv h hn hdb (star_cons (ns e List.mem_cons_self) es _) (star_any fun e' he' => ns e' (List.mem_cons_of_mem _ he')))
    fun σ H Q ⟨F0, H0, F, ρ, r, p⟩ => ⟨F0, H0, F, ρ, r, PostE.seqL p fun ds vs F1 H1 g1 r1 p1 => ⟨F1, ds, g1.fh, r1.bvs, p1.toV (noex_blt b ds)⟩⟩
/-- isinstance(e, T) -/
theorem s_isi {a : Expr} {pf pt : Pos} {ka : Nat} {fa : Rho → M D} (t : Ty) (ha : PE X a (TE' X W ka fa)) (ns : ∀ x p, a ≠ .Starred x p) (hg : Gl X "isinstance") (hm : X.mg "isinstance" = none) (gt : Gl X (Str.ofString (tyName t))) (mt : X.mg (Str.ofString (tyName t)) = none) :
    PE X (.Call (.Name "isinstance" pf) [a, .Name (Str.ofString (tyName t)) pt] [] pos) (TE' X W 0 fun ρ => (fa ρ).bind fun x => .ok (.bool (tyD t x))) := by
  have h2 : PE X (.Name (Str.ofString (tyName t)) pt) (tC (.ty (tyName t))) := pe_bltn (u := .type (tyName t)) gt mt (by cases t <;> decide +kernel) rfl (by cases t <;> decide +kernel) (by cases t <;> decide +kernel)
  refine PE.imp (pe_callB (call_isD t) hg hm (by decide +kernel) (pa_cons ha (pa_cons h2 pa_nil (star_cons (by intro _ _ z; cases z) _ _)) (star_cons ns _ _)) (by decide +kernel) (by decide +kernel) (star_cons ns _ _) (by rfl))
    fun σ H Q ⟨F0, H0, F, ρ, r, p⟩ => ⟨F0, H0, F, ρ, r, PostE.seq p fun x v F1 H1 g1 r1 p1 => ⟨F1, x, v, rfl, g1.fh, r1.bv, p1.flat g1.fh (.bool _) rfl⟩⟩
/-- slices -/
def PostO (X : Cx) (W : WX) (F H : Hp) (σ : St) (m : M (Option Int)) (Q : Option Int → Hp → Prop) : Prop := match m with
  | .ok o => ∀ F' H', Grow F H F' H' → Q o H'
  | .ex c fs => ∀ F' H' cls dd, Grow F H F' H' → XR X.mg X.K F' H' c fs cls dd → W cls dd σ H'
  | .bad => False
def TO' (X : Cx) (W : WX) (f : Rho → M (Option Int)) : TO := fun σ H Q => ∃ F0 H0 F ρ, Rel X.K F0 H0 F ρ σ H ∧ PostO X W F H σ (f ρ) Q
theorem PO.imp {e : Option Expr} {t t' : TO} (h : PO X e t) (i : ∀ σ H Q, t' σ H Q → t σ H Q) : PO X e t' := ⟨fun pins s σ H Q I q => h.run pins s σ H Q I (i σ H Q q)⟩
theorem o_none : PO X none (TO' X W fun _ => .ok none) := PO.imp po_none fun σ H Q ⟨F0, H0, F, ρ, r, p⟩ => p F H (Grow.refl r.sub)
theorem o_some {e : Expr} {f : Rho → M D} (h : PE X e (TE' X W k f)) : PO X (some e) (TO' X W fun ρ => (f ρ).bind fun d => match d with | .int i => .ok (some i) | _ => .bad) := by
  refine PO.imp (po_some h) fun σ H Q ⟨F0, H0, F, ρ, r, p⟩ => ⟨F0, H0, F, ρ, r, ?_⟩
  have p : PostO X W F H σ ((f ρ).bind fun d => match d with | .int i => .ok (some i) | _ => .bad) Q := p
  cases e1 : f ρ with
  | ok d =>
    rw [e1] at p
    cases d with
    | int i => exact fun v F1 H1 g1 r1 => ⟨i, r1.bv.int_inv, p F1 H1 g1⟩
    | _ => exact (show False from p).elim
  | ex c fs => rw [e1] at p; exact p
  | bad => rw [e1] at p; exact p
theorem s_slc {a : Expr} {lo hi : Option Expr} {p2 : Pos} {fa : Rho → M D} {fl fh : Rho → M (Option Int)} (ha : PE X a (TE' X W k fa)) (hl : PO X lo (TO' X W fl)) (hh : PO X hi (TO' X W fh)) :
    PE X (.Subscript a (.Slice lo hi none p2) pos) (TE' X W 1 fun ρ => (fa ρ).bind fun x => (fl ρ).bind fun l => (fh ρ).bind fun h => slcD x l h) := by
  refine PE.imp (pe_slice sl_D ha hl hh) fun σ H Q ⟨F0, H0, F, ρ, r, p⟩ => ⟨F0, H0, F, ρ, r, PostE.seq p fun x v F1 H1 g1 r1 p1 => ⟨F0, H0, F1, ρ, r.grow g1, ?_⟩⟩
  cases e1 : fl ρ with
  | ex c fs => rw [e1] at p1; exact p1
  | bad => rw [e1] at p1; exact p1
  | ok l =>
    rw [e1] at p1
    have p1 : PostE X W F1 H1 σ 1 ((fh ρ).bind fun h => slcD x l h) Q := p1
    refine fun F2 H2 g2 => ⟨F0, H0, F2, ρ, (r.grow g1).grow g2, ?_⟩
    cases e2 : fh ρ with
    | ex c fs => rw [e2] at p1; exact fun F' H' cls dd g x => p1 F' H' cls dd (g2.trans g) x
    | bad => rw [e2] at p1; exact p1
    | ok h =>
      rw [e2] at p1
      have p1 : PostE X W F1 H1 σ 1 (slcD x l h) Q := p1
      exact fun F3 H3 g3 => ⟨F3, x, g3.fh, (r1.bv.grow g2).grow g3, (p1.shift (g2.trans g3)).toV (noex_slc x l h)⟩
/-! tests by and, or, not -/
theorem w_and {a b : Expr} {rest : List Expr} {fa fb : Rho → M D} (ha : PT X a (TT' X W fun ρ => evB (fa ρ))) (hb : PW X (.BoolOp .And (b :: rest) pos) (TT' X W fun ρ => evB (fb ρ))) :
    PW X (.BoolOp .And (a :: b :: rest) pos) (TT' X W fun ρ => evB ((evB (fa ρ)).bind fun k => if k = true then fb ρ else .ok (.bool false))) := by
  refine PW.imp (pw_and ha hb) fun σ H Q ⟨F0, H0, F, ρ, r, p⟩ => ⟨F0, H0, F, ρ, r, ?_⟩
  have p : PostB X W F H σ (evB ((evB (fa ρ)).bind fun k => if k = true then fb ρ else .ok (.bool false))) Q := p
  show PostB X W F H σ (evB (fa ρ)) _
  cases e1 : evB (fa ρ) with
  | ex c fs => rw [e1] at p; exact p
  | bad => rw [e1] at p; exact p
  | ok c =>
    rw [e1] at p
    cases c with
    | true => exact fun F1 H1 g1 => ⟨F0, H0, F1, ρ, r.grow g1, PostB.shift (m := evB (fb ρ)) p g1⟩
    | false => exact p
theorem w_or {a b : Expr} {rest : List Expr} {fa fb : Rho → M D} (ha : PT X a (TT' X W fun ρ => evB (fa ρ))) (hb : PW X (.BoolOp .Or (b :: rest) pos) (TT' X W fun ρ => evB (fb ρ))) :
    PW X (.BoolOp .Or (a :: b :: rest) pos) (TT' X W fun ρ => evB ((evB (fa ρ)).bind fun k => if k = true then .ok (.bool true) else fb ρ)) := by
  refine PW.imp (pw_or ha hb) fun σ H Q ⟨F0, H0, F, ρ, r, p⟩ => ⟨F0, H0, F, ρ, r, ?_⟩
  have p : PostB X W F H σ (evB ((evB (fa ρ)).bind fun k => if k = true then .ok (.bool true) else fb ρ)) Q := p
  show PostB X W F H σ (evB (fa ρ)) _
  cases e1 : evB (fa ρ) with
  | ex c fs => rw [e1] at p; exact p
  | bad => rw [e1] at p; exact p
  | ok c =>
    rw [e1] at p
    cases c with
    | true => exact p
    | false => exact fun F1 H1 g1 => ⟨F0, H0, F1, ρ, r.grow g1, PostB.shift (m := evB (fb ρ)) p g1⟩
theorem t_not {a : Expr} {fa : Rho → M D} (ha : PT X a (TT' X W fun ρ => evB (fa ρ))) : PT X (.UnaryOp .Not a pos) (TT' X W fun ρ => evB ((evB (fa ρ)).bind fun k => .ok (.bool (!k)))) := by
  refine PT.imp (pt_not ha) fun σ H Q ⟨F0, H0, F, ρ, r, p⟩ => ⟨F0, H0, F, ρ, r, ?_⟩
  have p : PostB X W F H σ (evB ((evB (fa ρ)).bind fun k => .ok (.bool (!k)))) Q := p
  show PostB X W F H σ (evB (fa ρ)) _
  cases e1 : evB (fa ρ) with
  | ex c fs => rw [e1] at p; exact p
  | bad => rw [e1] at p; exact p
  | ok c => rw [e1] at p; exact p
end
end DL

/-! DZ: strictly rising rows of ints. -/
namespace DL
theorem insZ_mem {x y : Int} : ∀ {l : List Int}, y ∈ insZ x l ↔ y = x ∨ y ∈ l
  | [] => by simp [insZ]
  | z :: l => by
    unfold insZ
    split
    · simp
    · split
      · rename_i h; subst h
        simp
      · simp only [List.mem_cons, insZ_mem (l := l)]
        constructor
        · rintro (h | h | h)
          · exact .inr (.inl h)
          · exact .inl h
          · exact .inr (.inr h)
        · rintro (h | h | h)
          · exact .inr (.inl h)
          · exact .inl h
          · exact .inr (.inr h)
theorem insZ_lt {x : Int} : ∀ {l : List Int}, l.Pairwise (· < ·) → (insZ x l).Pairwise (· < ·)
  | [], _ => by simp [insZ]
  | z :: l, h => by
    rw [List.pairwise_cons] at h
    unfold insZ
    split
    · rename_i hx
      rw [List.pairwise_cons]
      refine ⟨fun y hy => ?_, List.pairwise_cons.mpr h⟩
      rcases List.mem_cons.mp hy with e | e
      · omega
      · have := h.1 y e; omega
    · split
      · exact List.pairwise_cons.mpr h
      · rw [List.pairwise_cons]
        refine ⟨fun y hy => ?_, insZ_lt h.2⟩
        rcases insZ_mem.mp hy with e | e
        · omega
        · exact h.1 y e
theorem sdd_mem {y : Int} : ∀ {l : List Int}, y ∈ sdd l ↔ y ∈ l
  | [] => by simp [sdd]
  | x :: l => by rw [sdd, insZ_mem, sdd_mem, List.mem_cons]
theorem sdd_lt : ∀ {l : List Int}, (sdd l).Pairwise (· < ·)
  | [] => .nil
  | x :: l => insZ_lt sdd_lt
theorem rise_uniq : ∀ {a b : List Int}, a.Pairwise (· < ·) → b.Pairwise (· < ·) → (∀ x, x ∈ a ↔ x ∈ b) → a = b
  | [], [], _, _, _ => rfl
  | [], y :: b, _, _, h => by have := (h y).mpr List.mem_cons_self; cases this
  | x :: a, [], _, _, h => by have := (h x).mp List.mem_cons_self; cases this
  | x :: a, y :: b, h1, h2, h => by
    rw [List.pairwise_cons] at h1 h2
    have e : x = y := by
      rcases List.mem_cons.mp ((h x).mp List.mem_cons_self) with e | e
      · exact e
      · rcases List.mem_cons.mp ((h y).mpr List.mem_cons_self) with e' | e'
        · exact e'.symm
        · have := h2.1 x e
          have := h1.1 y e'
          omega
    subst e
    rw [rise_uniq h1.2 h2.2 fun z => ⟨fun hz => by
      rcases List.mem_cons.mp ((h z).mp (List.mem_cons_of_mem _ hz)) with q | q
      · have := h1.1 z hz; omega
      · exact q, fun hz => by
      rcases List.mem_cons.mp ((h z).mpr (List.mem_cons_of_mem _ hz)) with q | q
      · have := h2.1 z hz; omega
      · exact q⟩]
end DL

/-! DSet3: sorted(set(e)) as an expression. -/
namespace DL
open PySem PySem.Spec PyProof.Rows L2
section
variable {K : Fg} {F H : Hp}
theorem DVs.keys : ∀ {vs : List V} {xs : List D} {ks : List (List Int)}, DVs K F vs xs → tupsOf xs = some ks → ∃ ps : List (Addr × List Int), vs = ps.map (fun p => V.ref p.1) ∧ ps.map (·.2) = ks ∧ ∀ p ∈ ps, SqT K F p.1 (p.2.map V.int)
  | vs, [], ks, h, e => by
    cases e
    exact ⟨[], h.unnil, rfl, fun p hp => (by cases hp)⟩
  | vs, x :: xs, ks, h, e => by
    obtain ⟨v, r, rfl, h1, h2⟩ := h.uncons
    cases x <;> first | (cases e; done) | skip
    rename_i ds
    unfold tupsOf at e
    rw [Option.bind_eq_some_iff] at e
    obtain ⟨k, e1, e2⟩ := e
    rw [Option.map_eq_some_iff] at e2
    obtain ⟨ks', e2, rfl⟩ := e2
    obtain ⟨ps, rfl, rfl, h3⟩ := h2.keys e2
    obtain ⟨a, us, rfl, h4, h5⟩ := h1.tup_inv
    have := h5.ints e1
    subst this
    refine ⟨(a, k) :: ps, rfl, rfl, fun p hp => ?_⟩
    rcases List.mem_cons.mp hp with z | z
    · subst z; exact h4
    · exact h3 p z
theorem DVs.of_keys : ∀ {ps : List (Addr × List Int)}, (∀ p ∈ ps, SqT K F p.1 (p.2.map V.int)) → DVs K F (ps.map fun p => V.ref p.1) (ps.map enc2)
  | [], _ => .nil
  | p :: ps, h => .cons (.tup (h p List.mem_cons_self) (DVs.of_ints p.2)) (DVs.of_keys fun q hq => h q (List.mem_cons_of_mem _ hq))
end
def rSetT (K : Fg) (P : Program) (w : World) : List V → Hp → VK → Prop := fun vs H Q => ∃ F d ks v, vs = [v] ∧ Sub F H ∧ BV K F H v d ∧ keysOf d = some ks ∧ (dd ks).length < 63 ∧
  ∀ a (L : List (Addr × List Int)), H a = none → (∀ p ∈ L, p.2 ∈ ks ∧ SqT K F p.1 (p.2.map V.int)) → (∀ k ∈ ks, k ∈ L.map (·.2)) → Q (.ref a) (upd H a (SetTO P w a L))
section
variable {X : Cx} {W : WX} {pos : Pos} {k : Nat}
theorem cr_setT' (hc : X.calm = true) {j : Nat} (hr : Room j X.A) : CallR X (.type "set") (rSetT X.K X.prog X.w) := by
  intro pins s σ H xs us Q I r h
  obtain ⟨F, d, ks, v, rfl, sb, hv, hk, hf, q⟩ := h
  unfold keysOf at hk
  rw [Option.bind_eq_some_iff] at hk
  obtain ⟨xs, e1, e2⟩ := hk
  obtain ⟨a, ws, rfl, t, hcs⟩ := items_inv hv sb e1
  obtain ⟨ps, rfl, rfl, h3⟩ := t.keys e2
  have un := hr.un
  have few : ∀ L : List (Addr × List Int), (L.map (·.2)).Nodup → (∀ p ∈ L, p ∈ ps) → L.length < 63 := fun L nd sub => by
    have l1 : (L.map (·.2)).length ≤ (dd (ps.map (·.2))).length := nd.length_le_of_subset fun k hk => by
      obtain ⟨p, hp, rfl⟩ := List.mem_map.mp hk
      exact mem_dd.mpr (List.mem_map.mpr ⟨p, sub p hp, rfl⟩)
    rw [List.length_map] at l1
    omega
  rw [Vals.ref1 r]
  have hn : H s.heap.objs.size = none := I.hok.fresh (Nat.le_refl _)
  have fin : ∀ (h' : Heap) (tk : Nat) (L : List (Addr × List Int)) es ep t, SetTR X.prog X.w h' s.heap.objs.size L es ep t → Got ps ps.length L → (∀ b o, s.heap.get? b = some o → h'.get? b = some o) → EP X pins σ Q (.ref s.heap.objs.size) { s with heap := h', toks := tk } := by
    intro h' tk L es ep t R g k
    refine ⟨.ref s.heap.objs.size, upd H s.heap.objs.size (SetTO X.prog X.w s.heap.objs.size L), I.laid (t' := tk) k (Nat.le_refl _) (setTO_new R.t0), rfl, q _ L hn (fun p hp => ?_) fun k hk => ?_⟩
    · have hp' := List.mem_of_mem_take (g.sub p hp)
      exact ⟨List.mem_map.mpr ⟨p, hp', rfl⟩, h3 p hp'⟩
    · obtain ⟨p, hp, rfl⟩ := List.mem_map.mp hk
      exact g.all p (by rw [List.take_length]; exact hp)
  have hk : ∀ p ∈ ps, IsT X.prog X.w s.heap p.2 p.1 := fun p hp => I.isT (seqT_mono sb (h3 p hp))
  rcases hcs with ⟨_, hl⟩ | ⟨_, hl, _⟩
  · obtain ⟨its, rv, pl, hz⟩ := I.list hl
    exact set_of_fewL (P := X.prog) (w := X.w) ps (I.ok.hd hc) pl.isList (by simpa using refs_of_vals rv) hk few (by omega) fin
  · obtain ⟨its, rv, pl, hz⟩ := I.tuple hl
    exact set_of_few (P := X.prog) (w := X.w) ps (I.ok.hd hc) (show s.heap.IsTuple a its.toArray from pl) (by simpa using refs_of_vals rv) hk few (by omega) fin
/-- ints -/
def rSetZ (K : Fg) (w : World) : List V → Hp → VK → Prop := fun vs H Q => ∃ F d xs ns v, vs = [v] ∧ Sub F H ∧ BV K F H v d ∧ items d = some xs ∧ intsD xs = some ns ∧ ns.length < 63 ∧ ∀ a n, H a = none → n ≤ ns.length → Q (.ref a) (upd H a (SetO w a (fun j => decide (j ∈ ns)) n))
theorem cr_setZ (hc : X.calm = true) : CallR X (.type "set") (rSetZ X.K X.w) := by
  intro pins s σ H xs us Q I r h
  obtain ⟨F, d, ys, ns, v, rfl, sb, hv, e1, e2, hl, q⟩ := h
  obtain ⟨a, ws, rfl, t, hcs⟩ := items_inv hv sb e1
  have ew := t.ints e2
  subst ew
  rw [Vals.ref1 r]
  have hn : H s.heap.objs.size = none := I.hok.fresh (Nat.le_refl _)
  have fin : ∀ (h' : Heap) (tk c : Nat), SetR X.w h' s.heap.objs.size (fun j => decide (j ∈ ns)) c → c ≤ ns.length → (∀ b o, s.heap.get? b = some o → h'.get? b = some o) → EP X pins σ Q (.ref s.heap.objs.size) { s with heap := h', toks := tk } := by
    intro h' tk c R hle k
    exact ⟨.ref s.heap.objs.size, upd H s.heap.objs.size (SetO X.w s.heap.objs.size (fun j => decide (j ∈ ns)) c), I.laid (t' := tk) k (Nat.le_refl _) (setO_new R), rfl, q _ c hn hle⟩
  rcases hcs with ⟨_, hl'⟩ | ⟨_, hl', _⟩
  · obtain ⟨its, rv, pl, hz⟩ := I.list hl'
    exact set_of_intL (P := X.prog) (w := X.w) ns (I.ok.hd hc) pl.isList (by simpa using rv.ints) (by unfold scanBound; omega) fin
  · obtain ⟨its, rv, pl, hz⟩ := I.tuple hl'
    exact call_set_tupI (P := X.prog) (w := X.w) ns (I.ok.hd hc) (show s.heap.IsTuple a its.toArray from pl) (by simpa using rv.ints) (by unfold scanBound; omega) fin
def rSetD (K : Fg) (P : Program) (w : World) : List V → Hp → VK → Prop := fun vs H Q => rSetT K P w vs H Q ∨ rSetZ K w vs H Q
theorem cr_setD (hc : X.calm = true) {j : Nat} (hr : Room j X.A) : CallR X (.type "set") (rSetD X.K X.prog X.w) := fun pins s σ H xs us Q I r h => h.elim (cr_setT' hc hr pins s σ H xs us Q I r) (cr_setZ hc pins s σ H xs us Q I r)
def rSortD (K : Fg) (P : Program) (w : World) : List V → Hp → VK → Prop := fun vs H Q => ∃ (a : Addr) (L : List (Addr × List Int)), vs = [V.ref a] ∧ H a = some (SetTO P w a L) ∧ (∀ p ∈ L, SqT K H p.1 (p.2.map V.int)) ∧
  ∀ (L1 : List (Addr × List Int)) (p : Addr), L1.Perm L → (L1.map (·.2)).Nodup → L1.length < 64 → H p = none → Q (.ref p) (upd H p (.lst ((L1.mergeSort (PySem.W.dataLe false enc2)).map fun q => V.ref q.1)))
theorem cr_sortD (hc : X.calm = true) {j : Nat} (hr : Room j X.A) : CallR X (.builtin "sorted") (rSortD X.K X.prog X.w) := by
  intro pins s σ H vs us Q I r h
  obtain ⟨a, L, rfl, ha, hk, q⟩ := h
  have R0 : SetT0 X.prog X.w s.heap a L := (I.hok a _ ha).1
  obtain ⟨es, ep, t, R⟩ := R0.full fun p hp => I.isT (hk p hp)
  have un := hr.un
  rw [Vals.ref1 r]
  refine sorted_set R (I.ok.hd hc) (by omega) fun s' p c L1 k g o hp hg pm => ?_
  have hfew : L1.length < 64 := by rw [pm.length_eq]; exact R.few
  have hlen : ((L1.mergeSort (PySem.W.dataLe false enc2)).map fun q => V.ref q.1).length ≤ sizeLine := by rw [List.length_map, (List.mergeSort_perm L1 _).length_eq, sizeLine_eq]; omega
  have hn : H p = none := I.hok.fresh hp
  have J : Inv X pins σ (upd H p (.lst ((L1.mergeSort (PySem.W.dataLe false enc2)).map fun q => V.ref q.1))) { s with heap := s'.heap, gens := s'.gens, drawn := s'.drawn, toks := s'.toks } :=
    I.call (ch := []) (Un.laid k hp hn) (I.hok.laid k hp ⟨hlen, _, c, vals_of_refs _, hg⟩) (by rw [g]; exact I.bare) (fun _ z => nomatch z)
  have e : s' = { s with heap := s'.heap, gens := s'.gens, drawn := s'.drawn, toks := s'.toks } := by
    cases s'
    cases s
    cases o
    rfl
  rw [e]
  exact ⟨.ref p, _, J, rfl, q L1 p pm ((pm.map (·.2)).nodup_iff.mpr R.nd) hfew hn⟩
def rSortD2 (K : Fg) (P : Program) (w : World) : List V → Hp → VK → Prop := fun vs H Q => rSortD K P w vs H Q ∨ rSortedSet w vs H Q
theorem cr_sortD2 (hc : X.calm = true) {j : Nat} (hr : Room j X.A) : CallR X (.builtin "sorted") (rSortD2 X.K X.prog X.w) := fun pins s σ H xs us Q I r h => h.elim (cr_sortD hc hr pins s σ H xs us Q I r) (cr_sortedSet hc pins s σ H xs us Q I r)
theorem merge_keys (L : List (Addr × List Int)) : (L.mergeSort (PySem.W.dataLe false enc2)).map (·.2) = (L.map (·.2)).mergeSort leI := by
  refine List.map_mergeSort (fun a _ b _ => ?_)
  show (!PySem.W.dataLt (tD b.2) (tD a.2)) = leI a.2 b.2
  unfold leI
  rw [ltI_data]
theorem s_sset {a : Expr} {ps pq p1 p2 : Pos} {ka : Nat} {fa : Rho → M D} {j : Nat} (hc : X.calm = true) (hr : Room j X.A) (ha : PE X a (TE' X W ka fa)) (ns : ∀ x p, a ≠ .Starred x p) (g1 : Gl X "sorted") (m1 : X.mg "sorted" = none) (g2 : Gl X "set") (m2 : X.mg "set" = none) :
    PE X (.Call (.Name "sorted" ps) [.Call (.Name "set" pq) [a] [] p1] [] p2) (TE' X W 1 fun ρ => (fa ρ).bind fun x => bltD .sset [x]) := by
  have i1 : PE X (.Call (.Name "set" pq) [a] [] p1) (tCB (rSetD X.K X.prog X.w) (tCons (TE' X W ka fa) tNil)) := pe_callTy (cr_setD hc hr) g2 m2 (by decide +kernel) (pa_cons ha pa_nil (star_cons ns _ _)) (by decide +kernel) (by decide +kernel) (star_cons ns _ _) rfl
  refine PE.imp (pe_callB (cr_sortD2 hc hr) g1 m1 (by decide +kernel) (pa_cons i1 pa_nil (star_cons (by intro _ _ z; cases z) _ _)) (by decide +kernel) (by decide +kernel) (star_cons (by intro _ _ z; cases z) _ _) rfl)
    fun σ H Q ⟨F0, H0, F, ρ, r, p⟩ => ⟨F0, H0, F, ρ, r, PostE.seq p fun d v F1 H1 g r1 p1 => ?_⟩
  have p1 : PostE X W F1 H1 σ 1 (match keysOf d with
    | some ks => if (dd ks).length < 63 then .ok (.list ((sortI (dd ks)).map tD)) else .bad
    | none => match (items d).bind intsD with
      | some ns => if ns.length < 63 then .ok (.list ((sdd ns).map .int)) else .bad
      | none => .bad) Q := p1
  cases e : keysOf d with
  | none =>
    rw [e] at p1
    dsimp only at p1
    cases e2 : (items d).bind intsD with
    | none => rw [e2] at p1; exact (show False from p1).elim
    | some ns =>
      rw [e2] at p1
      have p1 : PostE X W F1 H1 σ 1 (if ns.length < 63 then .ok (.list ((sdd ns).map .int)) else .bad) Q := p1
      split at p1
      case isFalse => exact p1.elim
      rename_i hf
      rw [Option.bind_eq_some_iff] at e2
      obtain ⟨xs, e3, e4⟩ := e2
      refine .inr ⟨F1, d, xs, ns, v, rfl, g.fh, r1.bv, e3, e4, hf, fun a n ha hle => ?_⟩
      have gb := Grow.beside (o := SetO X.w a (fun j => decide (j ∈ ns)) n) g.fh ha
      refine .inr ⟨a, _, n, rfl, upd_same, by omega, fun ns' p rise mem _ hp => ?_⟩
      have ens : ns' = sdd ns := rise_uniq rise sdd_lt fun x => by rw [mem x, decide_eq_true_eq, sdd_mem]
      subst ens
      exact p1 _ F1 _ (gb.trans (Grow.beside gb.fh hp)) (.fresh (gb.h.none hp) (gb.fh.none hp) upd_same (DVs.of_ints _))
  | some ks =>
    rw [e] at p1
    have p1 : PostE X W F1 H1 σ 1 (if (dd ks).length < 63 then .ok (.list ((sortI (dd ks)).map tD)) else .bad) Q := p1
    split at p1
    case isFalse => exact p1.elim
    rename_i hf
    refine .inl ⟨F1, d, ks, v, rfl, g.fh, r1.bv, e, hf, fun a L ha hL hall => ?_⟩
    have gb := Grow.beside (o := SetTO X.prog X.w a L) g.fh ha
    refine .inl ⟨a, L, rfl, upd_same, fun p hp => seqT_mono gb.fh (hL p hp).2, fun L1 q pm nd _ hq => ?_⟩
    have e2 : (L1.mergeSort (PySem.W.dataLe false enc2)).map enc2 = (sortI (dd ks)).map tD := by
      have z : (L1.mergeSort (PySem.W.dataLe false enc2)).map (·.2) = sortI (dd ks) := by
        rw [merge_keys]
        refine sortI_eq (perm_dd nd fun x => ⟨fun hx => ?_, fun hx => ?_⟩)
        · obtain ⟨p, hp, rfl⟩ := List.mem_map.mp hx
          exact (hL p (pm.mem_iff.mp hp)).1
        · exact (pm.map (·.2)).mem_iff.mpr (hall x hx)
      rw [← z, List.map_map]
      rfl
    have t2 : DVs X.K F1 ((L1.mergeSort (PySem.W.dataLe false enc2)).map fun q => V.ref q.1) ((sortI (dd ks)).map tD) := by
      rw [← e2]
      exact DVs.of_keys fun p hp => (hL p (pm.mem_iff.mp ((List.mergeSort_perm L1 _).mem_iff.mp hp))).2
    exact p1 _ F1 _ (gb.trans (Grow.beside gb.fh hq)) (.fresh (gb.h.none hq) (gb.fh.none hq) upd_same t2)
end
end DL

/-! DIter: what a for or a comprehension walks. -/
namespace DL
open PySem PySem.Spec PyProof.Rows L2

set_option maxHeartbeats 1000000 in
theorem meets_enum1 {v : Value} {o : Obj} {H : Heap → Prop} (B : Begins v o H) :
    Meets (Builtin.«enumerate.__new__» ⟨[.type "enumerate", v], []⟩) (fun _ R s => H s.heap ∧
      R (.ok (.ret (.ref (s.heap.push o).objs.size))) { s with heap := (s.heap.push o).push { cls := .type "enumerate", data := .fields #[.none, .bool false, .ref s.heap.objs.size, rawInt 0, .none, .none] } }) :=
  .of_wp fun prog w A R s h => by
    obtain ⟨hp, g, d, tk, os⟩ := s; obtain ⟨h1, h⟩ := h
    have hsub := sub_enumerate
    have q1 : ∀ {A' : Around} {E : Value → Shared → Prop} {Q : Value → Shared → Prop}, Q (.ref hp.objs.size) ⟨hp.push o, g, d, tk, os⟩ → wpAny (model prog w) A' (pyIter v) Q E ⟨hp, g, d, tk, os⟩ :=
      fun q => B.iter prog w _ _ ⟨hp, g, d, tk, os⟩ _ h1 q
    wp_walk using q1
    refine wpAny_stack_any fun st => wpAny_pure ?_
    split
    · rename_i c _ _ _ _ _
      cases (c == Value.type "enumerate")
      · wp_walk using q1
        exact ⟨_, rfl, h⟩
      · wp_walk using q1
        exact ⟨_, rfl, h⟩
    · wp_walk using q1
      exact ⟨_, rfl, h⟩
theorem enum1 {prog : Program} {w : World} {A : Around} {E : Value → Shared → Prop} {s : Shared} {v : Value} {o : Obj} {H : Heap → Prop} {Q : Value → Shared → Prop} (B : Begins v o H) (h1 : H s.heap)
    (h : ∀ h', IsEnum h' (s.heap.objs.size + 1) s.heap.objs.size 0 .none → h'.get? s.heap.objs.size = some o → h'.objs.size = s.heap.objs.size + 2 →
      (∀ b o, s.heap.get? b = some o → h'.get? b = some o) → Q (.ref (s.heap.objs.size + 1)) { s with heap := h' }) :
    wpAny (model prog w) A (call (.type "enumerate") [v]) Q E s := by
  refine callType_new F.called_enumerate (by decide) (F.typeCall_enumerate_1 _) (F.newCall_enumerate_1 _) (fun obj => F.args_object_init_2 obj _) F.entry_enumerate_new
    (meets_enum1 B) ⟨h1, ?_⟩
  have hz : (s.heap.push o).objs.size = s.heap.objs.size + 1 := Heap.size_push ..
  show _ ∧ _
  rw [hz]
  have he : IsEnum ((s.heap.push o).push { cls := .type "enumerate", data := .fields #[.none, .bool false, .ref s.heap.objs.size, rawInt 0, .none, .none] }) (s.heap.objs.size + 1) s.heap.objs.size 0 .none := by
    have := Heap.get?_push_size (s.heap.push o) (o := { cls := .type "enumerate", data := .fields #[.none, .bool false, .ref s.heap.objs.size, rawInt 0, .none, .none] }) rfl
    rw [hz] at this; exact this
  refine ⟨⟨_, he, rfl⟩, h _ he (Heap.get?_push_of_some _ (Heap.get?_push_size _ B.free)) (by rw [Heap.size_push, hz]) fun b o x => Heap.get?_push_of_some _ (Heap.get?_push_of_some _ x)⟩

/-! ### enumerate(tuple) -/
def IteT (K : PySem.W.Frag) (a : Addr) : L2.It :=
  ⟨fun i H => ∃ (xs : List V) (x : V), SqT K H a xs ∧ xs[i]? = some x, fun i H v H' => ∃ T x, v = .ref T ∧ H T = none ∧ H' = upd H T (.tup [.int (i : Nat), x]) ∧ ∀ xs, SqT K H a xs → xs[i]? = some x, fun i H => ∃ xs : List V, SqT K H a xs ∧ xs.length = i⟩
theorem turn_enumT {P : Program} {w : World} {K : PySem.W.Frag} {elts : List Expr} {kk : Nat} {tpos : Pos} (a e it : Addr) (ha : a ≠ it) (hea : e ≠ a) :
    Turn P w K (.Tuple elts kk tpos) (IteT K a) [e, it] e (fun i h => (∃ old, IsEnum h e it ((i : Nat) : Int) old) ∧ h.IsTupleIter it a i ∧ e ≠ it) where
  mem := by simp
  obj := fun i h st b hb => by
    obtain ⟨⟨old, he⟩, ⟨o, ho, hc, hd⟩, _⟩ := st
    have e' : b = e ∨ b = it := by simpa using hb
    rcases e' with z | z
    · rw [z]; exact ⟨_, he, fun v q => nomatch q⟩
    · rw [z]; exact ⟨o, ho, fun v q => by rw [hd] at q; cases q⟩
  keep := fun i h h' st k => let ⟨⟨old, he⟩, hi, hne⟩ := st; ⟨⟨old, k e (by simp) _ he⟩, hi.at fun o q => k it (by simp) o q, hne⟩
  item := by
    intro X hP hw hK hc i pins s σ H E I hf st hg
    subst hP hw hK
    obtain ⟨⟨old, he⟩, hit, hne⟩ := st
    obtain ⟨xs, x, hq, hx⟩ := hg
    obtain ⟨its, rv, p, hz⟩ := I.tuple hq
    obtain ⟨u, hu, ru⟩ := rv.get hx
    have hel : e < s.heap.objs.size := Heap.lt_size he
    have hil : it < s.heap.objs.size := by obtain ⟨_, q, _⟩ := hit; exact Heap.lt_size q
    have hlt : i < its.toArray.size := by
      have := List.getElem?_eq_some_iff.mp hu
      obtain ⟨q, _⟩ := this
      simpa using q
    refine wpAny_pyNext_enum_itemC (Draws.tuple (prog := X.prog) (w := X.w) (A := X.A.in1) (show X.A.in1.handled = none from I.ok.hd hc) it a ha its.toArray) he ⟨hit, show s.heap.IsTuple a its.toArray from p⟩ hlt hne (by simp [hne, hea]) fun x' h' tk hxi ho hit' hT hsz hk => ?_
    have hxi : its.toArray[i]? = some x' := hxi
    have ex : x' = u := by
      rw [show its.toArray[i]? = some u by simpa using hu] at hxi
      exact (Option.some.inj hxi).symm
    subst ex
    refine ⟨_, rfl, wpAny_letOwnedTupleGo_enum (s := { s with heap := h', toks := tk + 1 }) ho fun h'' he' sb => ?_⟩
    have hT2 : h''.get? s.heap.objs.size = some { cls := .type "tuple", data := .seq #[.int i tk, x'] } := (sb.2 _ (Nat.ne_of_gt hel)).trans hT
    have new : ObjOk X.prog X.w (upd H s.heap.objs.size (.tup [.int (i : Nat), x])) h'' s.heap.objs.size (.tup [.int (i : Nat), x]) :=
      ⟨by show 2 ≤ sizeLine; decide, [.int i tk, x'], .cons ⟨_, rfl⟩ (.cons ru .nil), ⟨_, hT2, rfl, _, rfl⟩⟩
    have I1 : Inv X pins σ (upd H s.heap.objs.size (.tup [.int (i : Nat), x])) { s with heap := h'', toks := tk + 1 } :=
      I.turnedNew (ch := [e, it]) (fun b ob hb q => (sb.2 b (fun z => hb (by simp [z]))).trans (hk b ob (fun z => hb (by simp [z])) (fun z => hb (by simp [z])) q)) hf (Nat.le_refl _) new
    refine ⟨.ref s.heap.objs.size, _, I1, rfl, ⟨_, x, rfl, I.hok.fresh (Nat.le_refl _), rfl, fun ys hy => by rw [I.tuple_inj hy hq]; exact hx⟩, ⟨⟨x', ?_⟩, hit'.1.at fun o q => (sb.2 it (Ne.symm hne)).trans q, hne⟩, fun b hb => ?_⟩
    · have e1 : ((i + 1 : Nat) : Int) = (i : Int) + 1 := by omega
      rw [e1]; exact he'
    · have hb' : b < s.heap.objs.size := by
        have e' : b = e ∨ b = it := by simpa using hb
        rcases e' with z | z
        · rw [z]; exact hel
        · rw [z]; exact hil
      rw [upd_ne (Nat.ne_of_lt hb')]
      exact (hf b hb).1
  done := by
    intro X hP hw hK hc i pins s σ H E I hf st hg
    subst hP hw hK
    obtain ⟨⟨old, he⟩, hit, hne⟩ := st
    obtain ⟨xs, hq, hx⟩ := hg
    obtain ⟨its, rv, p, hz⟩ := I.tuple hq
    obtain ⟨f0, f1, f2, f3, f4, f5⟩ := hf it (by simp)
    have hl := rv.length
    have D := Draws.tuple (prog := X.prog) (w := X.w) (A := X.A.in1) (show X.A.in1.handled = none from I.ok.hd hc) it a ha its.toArray
    have en : i = its.toArray.size := by rw [List.size_toArray]; omega
    exact wpAny_pyNext_enum_endD D he (by rw [← en]; exact ⟨hit, show s.heap.IsTuple a its.toArray from p⟩) fun h' eb => ⟨rfl, I.turned (t' := s.toks) (fun b o hb q => eb b o hb q) f0 f1 f3 f4 f5⟩
  self := fun A i s Q E st h => let ⟨⟨_, he⟩, _⟩ := st; wpAny_pyIter_enum he h

/-! ### enumerate of a list or a tuple; a list or a tuple -/
def iEnumA (K : PySem.W.Frag) (ta : TA) : TI := fun σ H R => ta σ H fun vs H1 => ∃ a, vs = [.ref a] ∧ (((∃ xs, SqL K H1 a xs) ∧ R (Ite K a) H1) ∨ ((∃ xs, SqT K H1 a xs) ∧ R (IteT K a) H1))
theorem pi_enumA {X : Cx} {e : Expr} {ta : TA} {p pos tpos : Pos} {elts : List Expr} {kk : Nat} (hg : Gl X "enumerate") (hm : X.mg "enumerate" = none) (ha : PA X [e] ta) (hs : starEach [e] X.env = [(false, eval e X.env)] := by rfl) :
    PI X (.Tuple elts kk tpos) (.Call (.Name "enumerate" p) [e] [] pos) (iEnumA X.K ta) := by
  refine ⟨fun pins s σ H R I h => ?_⟩
  refine Call_ (ld_blt I hg hm boot_enumerate (PyProof.Rows.callWith_type1 (thn (ha.run pos pins s σ H _ I h) fun us s1 ⟨vs, H1, I1, r1, q1⟩ => ?_) hs rfl))
  obtain ⟨a, ex, q⟩ := q1
  subst ex
  cases r1 with
  | cons r rr =>
    cases rr
    cases r
    have fr : ∀ b, b ∈ [s1.heap.objs.size + 1, s1.heap.objs.size] → FpOk X pins H1 b := fun b hb => by
      have e' : b = s1.heap.objs.size + 1 ∨ b = s1.heap.objs.size := by simpa using hb
      have hle : s1.heap.objs.size ≤ b := by
        rcases e' with z | z
        · rw [z]; exact Nat.le_add_right _ _
        · rw [z]; exact Nat.le_refl _
      exact I1.fpOk hle (I1.hok.fresh hle)
    rcases q with ⟨⟨xs, hq⟩, q⟩ | ⟨⟨xs, hq⟩, q⟩
    · obtain ⟨its, rv, p', hz⟩ := I1.list hq
      refine call_enumerate_list p'.isList fun h' he hit hsz hk => wpAny_pyIter_enum he ?_
      have I2 : Inv X pins σ H1 { s1 with heap := h' } := I1.kept (t' := s1.toks) hk
      exact ⟨s1.heap.objs.size + 1, [s1.heap.objs.size + 1, s1.heap.objs.size], _, _, H1, rfl, I2, turn_enum a (s1.heap.objs.size + 1) s1.heap.objs.size, ⟨⟨.none, he⟩, hit, Nat.succ_ne_self _⟩, fr, q⟩
    · obtain ⟨its, rv, p', hz⟩ := I1.tuple hq
      have hlt : a < s1.heap.objs.size := p'.lt
      refine enum1 (begins_tuple a its.toArray) (show s1.heap.IsTuple a its.toArray from p') fun h' he hit hsz hk => wpAny_pyIter_enum he ?_
      have I2 : Inv X pins σ H1 { s1 with heap := h' } := I1.kept (t' := s1.toks) hk
      exact ⟨s1.heap.objs.size + 1, [s1.heap.objs.size + 1, s1.heap.objs.size], _, _, H1, rfl, I2, turn_enumT a (s1.heap.objs.size + 1) s1.heap.objs.size (Nat.ne_of_lt hlt) (fun z => absurd (Nat.lt_trans (Nat.lt_succ_self _) (z.symm ▸ hlt : s1.heap.objs.size + 1 < s1.heap.objs.size)) (Nat.lt_irrefl _)), ⟨⟨.none, he⟩, ⟨_, hit, rfl, rfl⟩, Nat.succ_ne_self _⟩, fr, q⟩
def iSeqA (K : PySem.W.Frag) (tl : TE) : TI := fun σ H R => tl σ H fun x H1 => ∃ a, x = .ref a ∧ (((∃ xs, SqL K H1 a xs) ∧ R (Itl K a) H1) ∨ ((∃ xs, SqT K H1 a xs) ∧ R (Itt K a) H1))
theorem pi_seqA {X : Cx} {tg l : Expr} {tl : TE} (hl : PE X l tl) : PI X tg l (iSeqA X.K tl) := by
  refine ⟨fun pins s σ H R I h => ?_⟩
  refine thn (hl.run pins s σ H _ I h) fun v s1 ⟨x, H1, I1, r1, q1⟩ => ?_
  obtain ⟨a, e, q⟩ := q1
  subst e
  cases r1
  have fr : ∀ b, b ∈ [s1.heap.objs.size] → FpOk X pins H1 b := fun b hb => by
    have e : b = s1.heap.objs.size := by simpa using hb
    subst e
    exact I1.fpOk (Nat.le_refl _) (I1.hok.fresh (Nat.le_refl _))
  rcases q with ⟨⟨xs, hq⟩, q⟩ | ⟨⟨xs, hq⟩, q⟩
  · obtain ⟨its, rv, p, hz⟩ := I1.list hq
    refine wpAny_pyIter_list p.isList ?_
    exact ⟨s1.heap.objs.size, [s1.heap.objs.size], _, _, H1, rfl, I1.kept (t' := s1.toks) fun b o e => Heap.get?_push_of_some _ e, turn_list a _, ⟨_, Heap.get?_push_size _ rfl, rfl, rfl⟩, fr, q⟩
  · obtain ⟨its, rv, p, hz⟩ := I1.tuple hq
    refine wpAny_pyIter_tuple (show s1.heap.IsTuple a its.toArray from p) ?_
    exact ⟨s1.heap.objs.size, [s1.heap.objs.size], _, _, H1, rfl, I1.kept (t' := s1.toks) fun b o e => Heap.get?_push_of_some _ e, turn_tuple a _, ⟨_, Heap.get?_push_size _ rfl, rfl, rfl⟩, fr, q⟩

/-! ### what is yielded -/
structure Ylds (K : Fg) (F S : Hp) (J : L2.It) (xs : List D) : Prop where
  go : ∀ (i : Nat) (x : D) (F1 H1 : Hp), xs[i]? = some x → Sub F F1 → Sub S H1 → Sub F1 H1 → J.go i H1 ∧ ∀ v H2, J.yld i H1 v H2 → ∃ F2, Grow F1 H1 F2 H2 ∧ DV K F2 v x
  stop : ∀ (F1 H1 : Hp), Sub F F1 → Sub S H1 → Sub F1 H1 → J.stop xs.length H1
/-- shared, or at a root of S -/
def BVS (K : Fg) (F S : Hp) (v : V) (d : D) : Prop := DV K F v d ∨ ∃ a, v = .ref a ∧ Root K F S a d
def sel (b : Bool) (H : Hp) : Hp := if b = true then H else fun _ => none
section
variable {K : Fg} {F S F1 H1 H H' : Hp} {v : V} {d : D} {b : Bool} {xs ys : List D}
theorem sel_sub (s : Sub H H') : Sub (sel b H) (sel b H') := by
  unfold sel
  split
  · exact s
  · exact Sub.refl _
theorem sel_le : Sub (sel b H) H := by
  unfold sel
  split
  · exact Sub.refl _
  · intro a o e; cases e
theorem BVS.grow (h : BVS K F (sel b H) v d) (g : Grow F H F1 H1) : BVS K F1 (sel b H1) v d := by
  rcases h with h | ⟨a, e, r⟩
  · exact .inl (h.mono g.f)
  · exact .inr ⟨a, e, r.mono g.f fun o q => sel_sub g.h _ _ q⟩
def AtL (K : Fg) (F S : Hp) (a : Addr) (vs : List V) : Prop := ∀ F1 H1, Sub F F1 → Sub S H1 → Sub F1 H1 → SqL K H1 a vs
def AtT (K : Fg) (F S : Hp) (a : Addr) (vs : List V) : Prop := ∀ F1 H1, Sub F F1 → Sub S H1 → Sub F1 H1 → SqT K H1 a vs
theorem BVS.list (h : BVS K F S v (.list xs)) : ∃ a vs, v = .ref a ∧ AtL K F S a vs ∧ DVs K F vs xs := by
  rcases h with h | ⟨a, e, vs, h1, h2⟩
  · obtain ⟨a, vs, e, h1, h2⟩ := h.lst_inv
    exact ⟨a, vs, e, fun F1 H1 s1 s2 s3 => seqL_mono (s1.trans s3) h1, h2⟩
  · exact ⟨a, vs, e, fun F1 H1 s1 s2 s3 => .inl (.inl (s2 _ _ h1)), h2⟩
theorem BVS.tup (h : BVS K F S v (.tuple xs)) : ∃ a vs, v = .ref a ∧ AtT K F S a vs ∧ DVs K F vs xs := by
  rcases h with h | ⟨a, e, r⟩
  · obtain ⟨a, vs, e, h1, h2⟩ := h.tup_inv
    exact ⟨a, vs, e, fun F1 H1 s1 s2 s3 => seqT_mono (s1.trans s3) h1, h2⟩
  · exact r.elim
theorem BVS.items (h : BVS K F S v d) (e : items d = some xs) : ∃ a vs, v = .ref a ∧ (AtL K F S a vs ∨ AtT K F S a vs) ∧ DVs K F vs xs := by
  cases d <;> first | (cases e; done) | skip
  · cases e; obtain ⟨a, vs, e, h1, h2⟩ := h.list; exact ⟨a, vs, e, .inl h1, h2⟩
  · cases e; obtain ⟨a, vs, e, h1, h2⟩ := h.tup; exact ⟨a, vs, e, .inr h1, h2⟩
variable {a c : Addr} {vs ws : List V}
theorem y_list (h : AtL K F S a vs) (t : DVs K F vs xs) : Ylds K F S (Itl K a) xs where
  go := fun i x F1 H1 hx s1 s2 s3 => by
    obtain ⟨v, hv, dv⟩ := t.get hx
    refine ⟨⟨vs, v, h F1 H1 s1 s2 s3, hv⟩, fun u H2 ⟨e, q⟩ => ?_⟩
    subst e
    have := q vs (h F1 H2 s1 s2 s3)
    rw [hv] at this
    cases this
    exact ⟨F1, Grow.refl s3, dv.mono s1⟩
  stop := fun F1 H1 s1 s2 s3 => ⟨vs, h F1 H1 s1 s2 s3, by rw [t.length]; exact Nat.le_refl _⟩
theorem y_tup (h : AtT K F S a vs) (t : DVs K F vs xs) : Ylds K F S (Itt K a) xs where
  go := fun i x F1 H1 hx s1 s2 s3 => by
    obtain ⟨v, hv, dv⟩ := t.get hx
    refine ⟨⟨vs, v, h F1 H1 s1 s2 s3, hv⟩, fun u H2 ⟨e, q⟩ => ?_⟩
    subst e
    have := q vs (h F1 H2 s1 s2 s3)
    rw [hv] at this
    cases this
    exact ⟨F1, Grow.refl s3, dv.mono s1⟩
  stop := fun F1 H1 s1 s2 s3 => ⟨vs, h F1 H1 s1 s2 s3, by rw [t.length]; exact Nat.le_refl _⟩
theorem rng_get : ∀ {n : Nat} {lo : Int} {i : Nat} {x : D}, (rng lo n)[i]? = some x → i < n ∧ x = .int (lo + i)
  | 0, lo, i, x, h => by simp [rng] at h
  | n + 1, lo, 0, x, h => by simp [rng] at h; subst h; exact ⟨Nat.succ_pos _, by simp⟩
  | n + 1, lo, i + 1, x, h => by
    rw [rng, List.getElem?_cons_succ] at h
    obtain ⟨h1, h2⟩ := rng_get h
    refine ⟨Nat.succ_lt_succ h1, h2.trans ?_⟩
    congr 1
    push_cast
    omega
theorem rng_len : ∀ {n : Nat} {lo : Int}, (rng lo n).length = n
  | 0, _ => rfl
  | n + 1, lo => by rw [rng, List.length_cons, rng_len]
theorem y_rng {lo : Int} {n : Nat} : Ylds K F S (Itr lo n) (rng lo n) where
  go := fun i x F1 H1 hx s1 s2 s3 => by
    obtain ⟨h1, rfl⟩ := rng_get hx
    refine ⟨h1, fun u H2 ⟨e, q⟩ => ?_⟩
    subst e q
    exact ⟨F1, Grow.refl s3, .int _⟩
  stop := fun F1 H1 s1 s2 s3 => by rw [rng_len]; exact Nat.le_refl _
theorem enum_get : ∀ {xs : List D} {k : Int} {i : Nat} {x : D}, (enumD k xs)[i]? = some x → ∃ y, xs[i]? = some y ∧ x = .tuple [.int (k + i), y]
  | [], k, i, x, h => by simp [enumD] at h
  | y :: xs, k, 0, x, h => by simp [enumD] at h; subst h; exact ⟨y, rfl, by simp⟩
  | y :: xs, k, i + 1, x, h => by
    rw [enumD, List.getElem?_cons_succ] at h
    obtain ⟨z, h1, h2⟩ := enum_get h
    refine ⟨z, by simpa using h1, h2.trans ?_⟩
    congr 3
    push_cast
    omega
theorem enum_len : ∀ {xs : List D} {k : Int}, (enumD k xs).length = xs.length
  | [], _ => rfl
  | _ :: xs, k => by rw [enumD, List.length_cons, List.length_cons, enum_len]
theorem DV.pair {T : Addr} {u v : V} {x y : D} (s : Sub F H) (n : H T = Option.none) (hu : DV K F u x) (hv : DV K F v y) : DV K (upd F T (.tup [u, v])) (.ref T) (.tuple [x, y]) := by
  have m : Sub F (upd F T (.tup [u, v])) := sub_upd (s.none n)
  exact .tup (.inl (.inl upd_same)) (.cons (hu.mono m) (.cons (hv.mono m) .nil))
theorem y_enumL (h : AtL K F S a vs) (t : DVs K F vs xs) : Ylds K F S (Ite K a) (enumD 0 xs) where
  go := fun i x F1 H1 hx s1 s2 s3 => by
    obtain ⟨y, hy, rfl⟩ := enum_get hx
    obtain ⟨v, hv, dv⟩ := t.get hy
    refine ⟨⟨vs, v, h F1 H1 s1 s2 s3, hv⟩, fun u H2 ⟨T, w, e1, hT, e2, q⟩ => ?_⟩
    subst e1 e2
    have := q vs (h F1 H1 s1 s2 s3)
    rw [hv] at this
    cases this
    exact ⟨_, Grow.laid s3 hT, by rw [Int.zero_add]; exact DV.pair s3 hT (.int _) (dv.mono s1)⟩
  stop := fun F1 H1 s1 s2 s3 => ⟨vs, h F1 H1 s1 s2 s3, by rw [t.length, enum_len]; exact Nat.le_refl _⟩
theorem y_enumT (h : AtT K F S a vs) (t : DVs K F vs xs) : Ylds K F S (IteT K a) (enumD 0 xs) where
  go := fun i x F1 H1 hx s1 s2 s3 => by
    obtain ⟨y, hy, rfl⟩ := enum_get hx
    obtain ⟨v, hv, dv⟩ := t.get hy
    refine ⟨⟨vs, v, h F1 H1 s1 s2 s3, hv⟩, fun u H2 ⟨T, w, e1, hT, e2, q⟩ => ?_⟩
    subst e1 e2
    have := q vs (h F1 H1 s1 s2 s3)
    rw [hv] at this
    cases this
    exact ⟨_, Grow.laid s3 hT, by rw [Int.zero_add]; exact DV.pair s3 hT (.int _) (dv.mono s1)⟩
  stop := fun F1 H1 s1 s2 s3 => ⟨vs, h F1 H1 s1 s2 s3, by rw [t.length, enum_len]⟩
theorem zip_get : ∀ {xs ys : List D} {i : Nat} {x : D}, (zipD xs ys)[i]? = some x → ∃ y z, xs[i]? = some y ∧ ys[i]? = some z ∧ x = .tuple [y, z]
  | [], ys, i, x, h => by simp [zipD] at h
  | y :: xs, [], i, x, h => by simp [zipD] at h
  | y :: xs, z :: ys, 0, x, h => by simp [zipD] at h; subst h; exact ⟨y, z, rfl, rfl, rfl⟩
  | y :: xs, z :: ys, i + 1, x, h => by
    rw [zipD, List.getElem?_cons_succ] at h
    simpa using zip_get h
theorem zip_len : ∀ {xs ys : List D}, xs.length ≤ (zipD xs ys).length ∨ ys.length ≤ (zipD xs ys).length
  | [], ys => .inl (Nat.zero_le _)
  | _ :: xs, [] => .inr (Nat.zero_le _)
  | _ :: xs, _ :: ys => by
    rw [zipD, List.length_cons, List.length_cons, List.length_cons]
    rcases zip_len (xs := xs) (ys := ys) with h | h
    · exact .inl (Nat.succ_le_succ h)
    · exact .inr (Nat.succ_le_succ h)
theorem y_zipL (h : AtL K F S a vs) (t : DVs K F vs xs) (h' : AtL K F S c ws) (t' : DVs K F ws ys) : Ylds K F S (Itz K a c) (zipD xs ys) where
  go := fun i x F1 H1 hx s1 s2 s3 => by
    obtain ⟨y, z, hy, hz, rfl⟩ := zip_get hx
    obtain ⟨v, hv, dv⟩ := t.get hy
    obtain ⟨w, hw, dw⟩ := t'.get hz
    refine ⟨⟨vs, ws, v, w, h F1 H1 s1 s2 s3, h' F1 H1 s1 s2 s3, hv, hw⟩, fun u H2 ⟨T, p, q, e1, hT, e2, q1, q2⟩ => ?_⟩
    subst e1 e2
    have := q1 vs (h F1 H1 s1 s2 s3)
    rw [hv] at this
    cases this
    have := q2 ws (h' F1 H1 s1 s2 s3)
    rw [hw] at this
    cases this
    exact ⟨_, Grow.laid s3 hT, DV.pair s3 hT (dv.mono s1) (dw.mono s1)⟩
  stop := fun F1 H1 s1 s2 s3 => ⟨vs, ws, h F1 H1 s1 s2 s3, h' F1 H1 s1 s2 s3, by rw [t.length, t'.length]; exact zip_len⟩
theorem y_zipT (h : AtT K F S a vs) (t : DVs K F vs xs) (h' : AtT K F S c ws) (t' : DVs K F ws ys) : Ylds K F S (RZ.ItzT K a c) (zipD xs ys) where
  go := fun i x F1 H1 hx s1 s2 s3 => by
    obtain ⟨y, z, hy, hz, rfl⟩ := zip_get hx
    obtain ⟨v, hv, dv⟩ := t.get hy
    obtain ⟨w, hw, dw⟩ := t'.get hz
    refine ⟨⟨vs, ws, v, w, h F1 H1 s1 s2 s3, h' F1 H1 s1 s2 s3, hv, hw⟩, fun u H2 ⟨T, p, q, e1, hT, e2, q1, q2⟩ => ?_⟩
    subst e1 e2
    have := q1 vs (h F1 H1 s1 s2 s3)
    rw [hv] at this
    cases this
    have := q2 ws (h' F1 H1 s1 s2 s3)
    rw [hw] at this
    cases this
    exact ⟨_, Grow.laid s3 hT, DV.pair s3 hT (dv.mono s1) (dw.mono s1)⟩
  stop := fun F1 H1 s1 s2 s3 => ⟨vs, ws, h F1 H1 s1 s2 s3, h' F1 H1 s1 s2 s3, by rw [t.length, t'.length]; exact zip_len⟩
end
def PostI (X : Cx) (W : WX) (F H : Hp) (σ : St) (b : Bool) (m : M (List D)) (R : L2.It → Hp → Prop) : Prop := match m with
  | .ok xs => ∀ J F' H', Grow F H F' H' → Ylds X.K F' (sel b H') J xs → R J H'
  | .ex c fs => ∀ F' H' cls dd, Grow F H F' H' → XR X.mg X.K F' H' c fs cls dd → W cls dd σ H'
  | .bad => False
def TI' (X : Cx) (W : WX) (b : Bool) (f : Rho → M (List D)) : TI := fun σ H R => ∃ F0 H0 F ρ, Rel X.K F0 H0 F ρ σ H ∧ PostI X W F H σ b (f ρ) R
theorem PI.imp {X : Cx} {tg e : Expr} {t t' : TI} (h : PI X tg e t) (i : ∀ σ H R, t' σ H R → t σ H R) : PI X tg e t' := ⟨fun pins s σ H R I q => h.run pins s σ H R I (i σ H R q)⟩
section
variable {X : Cx} {W : WX} {F H F1 H1 : Hp} {σ : St} {k k1 : Nat} {b : Bool} {pos p tpos : Pos} {R : L2.It → Hp → Prop}
theorem PostI.shift {m : M (List D)} (q : PostI X W F H σ b m R) (g : Grow F H F1 H1) : PostI X W F1 H1 σ b m R := by
  cases m with
  | ok d => exact fun J F' H' g' r => q J F' H' (g.trans g') r
  | ex c fs => exact fun F' H' cls dd g' x => q F' H' cls dd (g.trans g') x
  | bad => exact q
theorem PostI.seqE {m : M D} {f : D → M (List D)} {R' : VK} (hk : b = true ∨ k = 0 ∨ k = 1) (q : PostI X W F H σ b (m.bind f) R)
    (h : ∀ d v F1 H1, Grow F H F1 H1 → BVS X.K F1 (sel b H1) v d → PostI X W F1 H1 σ b (f d) R → R' v H1) : PostE X W F H σ k m R' := by
  cases m with
  | ok d =>
    intro v F1 H1 g r
    have q : PostI X W F H σ b (f d) R := q
    rcases hk with rfl | hk
    · refine h d v F1 H1 g ?_ (q.shift g)
      rcases r.bv with z | ⟨a, e, _, z⟩
      · exact .inl z
      · exact .inr ⟨a, e, z⟩
    · obtain ⟨F2, g2, _, h2⟩ := r.share hk g
      exact h d v F2 H1 g2 (.inl h2) (q.shift g2)
  | ex c fs => exact q
  | bad => exact q
theorem PostI.fin {xs : List D} {J : L2.It} (q : PostI X W F H σ b (.ok xs) R) (s : Sub F H) (y : Ylds X.K F (sel b H) J xs) : R J H := q J F H (Grow.refl s) y
theorem i_seq {tg e : Expr} {f : Rho → M D} (hk : b = true ∨ k = 0 ∨ k = 1) (h : PE X e (TE' X W k f)) : PI X tg e (TI' X W b fun ρ => (f ρ).bind fun d => M.ofO (items d)) := by
  refine PI.imp (pi_seqA h) fun σ H R ⟨F0, H0, F, ρ, r, q⟩ => ⟨F0, H0, F, ρ, r, PostI.seqE hk q fun d v F1 H1 g1 r1 q1 => ?_⟩
  cases e1 : items d with
  | none => rw [e1] at q1; exact q1.elim
  | some xs =>
    rw [e1] at q1
    obtain ⟨a, vs, ev, at', t⟩ := r1.items e1
    refine ⟨a, ev, ?_⟩
    rcases at' with at' | at'
    · exact .inl ⟨⟨vs, at' F1 H1 (Sub.refl _) sel_le g1.fh⟩, q1.fin g1.fh (y_list at' t)⟩
    · exact .inr ⟨⟨vs, at' F1 H1 (Sub.refl _) sel_le g1.fh⟩, q1.fin g1.fh (y_tup at' t)⟩
theorem i_enum {e : Expr} {elts : List Expr} {kk : Nat} {f : Rho → M D} (hg : Gl X "enumerate") (hm : X.mg "enumerate" = none) (hk : b = true ∨ k = 0 ∨ k = 1) (h : PE X e (TE' X W k f)) (ns : ∀ x p, e ≠ .Starred x p) :
    PI X (.Tuple elts kk tpos) (.Call (.Name "enumerate" p) [e] [] pos) (TI' X W b fun ρ => (f ρ).bind fun d => (M.ofO (items d)).bind fun xs => .ok (enumD 0 xs)) := by
  refine PI.imp (pi_enumA hg hm (pa_cons h pa_nil (star_cons ns _ _)) (star_cons ns _ _)) fun σ H R ⟨F0, H0, F, ρ, r, q⟩ => ⟨F0, H0, F, ρ, r, PostI.seqE hk q fun d v F1 H1 g1 r1 q1 => ?_⟩
  cases e1 : items d with
  | none => rw [e1] at q1; exact q1.elim
  | some xs =>
    rw [e1] at q1
    have q1 : PostI X W F1 H1 σ b (.ok (enumD 0 xs)) R := q1
    obtain ⟨a, vs, ev, at', t⟩ := r1.items e1
    refine ⟨a, by rw [ev], ?_⟩
    rcases at' with at' | at'
    · exact .inl ⟨⟨vs, at' F1 H1 (Sub.refl _) sel_le g1.fh⟩, q1.fin g1.fh (y_enumL at' t)⟩
    · exact .inr ⟨⟨vs, at' F1 H1 (Sub.refl _) sel_le g1.fh⟩, q1.fin g1.fh (y_enumT at' t)⟩
theorem i_zip {e e2 : Expr} {elts : List Expr} {kk : Nat} {f f2 : Rho → M D} (hg : Gl X "zip") (hm : X.mg "zip" = none) (hk : b = true ∨ k = 0 ∨ k = 1) (hk1 : b = true ∨ k1 = 0 ∨ k1 = 1) (h : PE X e (TE' X W k f)) (h2 : PE X e2 (TE' X W k1 f2)) (ns : ∀ x p, e ≠ .Starred x p) (ns2 : ∀ x p, e2 ≠ .Starred x p) :
    PI X (.Tuple elts kk tpos) (.Call (.Name "zip" p) [e, e2] [] pos) (TI' X W b fun ρ => (f ρ).bind fun x => (f2 ρ).bind fun y => match x, y with
      | .list xs, .list ys => .ok (zipD xs ys)
      | .tuple xs, .tuple ys => .ok (zipD xs ys)
      | _, _ => .bad) := by
  refine PI.imp (RZ.pi_zipA hg hm (pa_cons h (pa_cons h2 pa_nil (star_cons ns2 _ _)) (star_cons ns _ _)) (star_cons ns _ _) (star_any fun e' he' => by
    have : e' = e2 := by simpa using he'
    subst this; exact ns2)) fun σ H R ⟨F0, H0, F, ρ, r, q⟩ => ⟨F0, H0, F, ρ, r, PostI.seqE hk q fun x v F1 H1 g1 r1 q1 => ⟨F0, H0, F1, ρ, r.grow g1, PostI.seqE hk1 q1 fun y u F2 H2 g2 r2 q2 => ?_⟩⟩
  have r1 := r1.grow g2
  split at q2
  · obtain ⟨a, vs, ev, at', t⟩ := r1.list
    obtain ⟨c, ws, ew, at2, t2⟩ := r2.list
    subst ev ew
    exact ⟨a, c, vs, ws, rfl, .inl ⟨at' F2 H2 (Sub.refl _) sel_le g2.fh, at2 F2 H2 (Sub.refl _) sel_le g2.fh, q2.fin g2.fh (y_zipL at' t at2 t2)⟩⟩
  · obtain ⟨a, vs, ev, at', t⟩ := r1.tup
    obtain ⟨c, ws, ew, at2, t2⟩ := r2.tup
    subst ev ew
    exact ⟨a, c, vs, ws, rfl, .inr ⟨at' F2 H2 (Sub.refl _) sel_le g2.fh, at2 F2 H2 (Sub.refl _) sel_le g2.fh, q2.fin g2.fh (y_zipT at' t at2 t2)⟩⟩
  · exact q2.elim
theorem PostI.seqN {m : M D} {f : D → M (List D)} {R' : VK} (q : PostI X W F H σ b (m.bind f) R)
    (h : ∀ d v F1 H1, Grow F H F1 H1 → BV X.K F1 H1 v d → PostI X W F1 H1 σ b (f d) R → R' v H1) : PostE X W F H σ k m R' := by
  cases m with
  | ok d => exact fun v F1 H1 g r => h d v F1 H1 g r.bv (PostI.shift (m := f d) q g)
  | ex c fs => exact q
  | bad => exact q
theorem inR_of {i : Int} (h : inR i = true) : -(2 ^ 62) ≤ i ∧ i < 2 ^ 62 := by
  have := Nat.le_of_ble_eq_true h
  omega
theorem i_rng1 {tg e : Expr} {f : Rho → M D} (hg : Gl X "range") (hm : X.mg "range" = none) (h : PE X e (TE' X W k f)) (ns : ∀ x p, e ≠ .Starred x p) :
    PI X tg (.Call (.Name "range" p) [e] [] pos) (TI' X W b fun ρ => (f ρ).bind fun x => match x with
      | .int n => if inR n = true then .ok (rng 0 n.toNat) else .bad
      | _ => .bad) := by
  refine PI.imp (pi_range1 hg hm (pa_cons h pa_nil (star_cons ns _ _)) (star_cons ns _ _)) fun σ H R ⟨F0, H0, F, ρ, r, q⟩ => ⟨F0, H0, F, ρ, r, PostI.seqN q fun d v F1 H1 g1 r1 q1 => ?_⟩
  cases d with
  | int n =>
    have q1 : PostI X W F1 H1 σ b (if inR n = true then .ok (rng 0 n.toNat) else .bad) R := q1
    split at q1
    · rename_i hn
      exact ⟨n, by rw [r1.int_inv], (inR_of hn).1, (inR_of hn).2, q1.fin g1.fh y_rng⟩
    · exact q1.elim
  | _ => exact (show False from q1).elim
theorem i_rng2 {tg e e2 : Expr} {f f2 : Rho → M D} (hg : Gl X "range") (hm : X.mg "range" = none) (h : PE X e (TE' X W k f)) (h2 : PE X e2 (TE' X W k1 f2)) (ns : ∀ x p, e ≠ .Starred x p) (ns2 : ∀ x p, e2 ≠ .Starred x p) :
    PI X tg (.Call (.Name "range" p) [e, e2] [] pos) (TI' X W b fun ρ => (f ρ).bind fun x => (f2 ρ).bind fun y => match x, y with
      | .int lo, .int hi => if inR lo = true ∧ inR hi = true then .ok (rng lo (hi - lo).toNat) else .bad
      | _, _ => .bad) := by
  refine PI.imp (pi_range2 hg hm (pa_cons h (pa_cons h2 pa_nil (star_cons ns2 _ _)) (star_cons ns _ _)) (by rw [star_cons ns, star_cons ns2]; rfl) (star_cons ns2 _ _)) fun σ H R ⟨F0, H0, F, ρ, r, q⟩ => ⟨F0, H0, F, ρ, r, PostI.seqN q fun d v F1 H1 g1 r1 q1 => ⟨F0, H0, F1, ρ, r.grow g1, PostI.seqN q1 fun y u F2 H2 g2 r2 q2 => ?_⟩⟩
  split at q2
  · split at q2
    · rename_i hn
      exact ⟨_, _, by rw [r1.int_inv, r2.int_inv], ⟨(inR_of hn.1).1, (inR_of hn.1).2, (inR_of hn.2).1, (inR_of hn.2).2⟩, q2.fin g2.fh y_rng⟩
    · exact q2.elim
  · exact q2.elim
end
end DL

/-! DComp: targets; list comprehensions. -/
namespace DL
open PySem PySem.Spec PyProof.Rows L2
section
variable {K : Fg} {F0 H0 F H : Hp} {ρ ρ1 : Rho} {σ : St} {v : V} {d : D} {i : Nat}
theorem Rel.set (r : Rel K F0 H0 F ρ σ H) (h : DV K F v d) (i : Nat) : Rel K F0 H0 F (ρ.set i (.sh d)) (σ.set i (some v)) H where
  len := by rw [List.length_set, List.length_set]; exact r.len
  sub := r.sub
  f0 := r.f0
  same := r.same
  new := r.new
  fz := r.fz
  slot := fun j s e => by
    by_cases hj : i = j
    · subst hj
      by_cases hl : i < ρ.length
      · rw [List.getElem?_set_self hl] at e
        cases e
        exact ⟨v, by rw [List.getElem?_set_self (by rw [← r.len]; exact hl)], h⟩
      · rw [List.getElem?_eq_none (by simpa using hl)] at e; cases e
    · rw [List.getElem?_set_ne hj] at e
      rw [List.getElem?_set_ne hj]
      exact r.slot j s e
  apart := fun j k d' a h1 h2 hjk h3 => by
    by_cases hj : i = j
    · subst hj
      by_cases hl : i < ρ.length
      · rw [List.getElem?_set_self hl] at h1; cases h1
      · rw [List.getElem?_eq_none (by simpa using hl)] at h1; cases h1
    · rw [List.getElem?_set_ne hj] at h1 h2
      by_cases hk : i = k
      · subst hk
        by_cases hl : i < ρ.length
        · rw [List.getElem?_set_self hl]
          exact ⟨fun e z => (by cases z), fun e z => (by cases z)⟩
        · rw [List.getElem?_eq_none (by simpa using hl)]
          exact ⟨fun e z => (by cases z), fun e z => (by cases z)⟩
      · rw [List.getElem?_set_ne hk] at h3
        rw [List.getElem?_set_ne hk]
        exact r.apart j k d' a h1 h2 hjk h3
theorem Rel.unset (r : Rel K F0 H0 F ρ σ H) (i : Nat) (u : Option V) : Rel K F0 H0 F (ρ.set i .un) (σ.set i u) H where
  len := by rw [List.length_set, List.length_set]; exact r.len
  sub := r.sub
  f0 := r.f0
  same := r.same
  new := r.new
  fz := r.fz
  slot := fun j s e => by
    by_cases hj : i = j
    · subst hj
      by_cases hl : i < ρ.length
      · rw [List.getElem?_set_self hl] at e
        cases e
        trivial
      · rw [List.getElem?_eq_none (by simpa using hl)] at e; cases e
    · rw [List.getElem?_set_ne hj] at e
      rw [List.getElem?_set_ne hj]
      exact r.slot j s e
  apart := fun j k d' a h1 h2 hjk h3 => by
    by_cases hj : i = j
    · subst hj
      by_cases hl : i < ρ.length
      · rw [List.getElem?_set_self hl] at h1; cases h1
      · rw [List.getElem?_eq_none (by simpa using hl)] at h1; cases h1
    · rw [List.getElem?_set_ne hj] at h1 h2
      by_cases hk : i = k
      · subst hk
        by_cases hl : i < ρ.length
        · rw [List.getElem?_set_self hl]
          exact ⟨fun e z => (by cases z), fun e z => (by cases z)⟩
        · rw [List.getElem?_eq_none (by simpa using hl)]
          exact ⟨fun e z => (by cases z), fun e z => (by cases z)⟩
      · rw [List.getElem?_set_ne hk] at h3
        rw [List.getElem?_set_ne hk]
        exact r.apart j k d' a h1 h2 hjk h3
theorem Rel.forget (r : Rel K F0 H0 F ρ σ H) (i : Nat) : Rel K F0 H0 F (ρ.set i .un) (σ.set i none) H := r.unset i none
theorem Rel.wipe (r : Rel K F0 H0 F ρ σ H) : ∀ vs : List Nat, Rel K F0 H0 F (DL.wipe ρ vs) (L2.wipe σ vs) H
  | [] => r
  | v :: vs => (Rel.wipe r vs).forget v
theorem wipe_set {σ : St} {i : Nat} {o : Option V} : ∀ {vs : List Nat}, i ∈ vs → L2.wipe (σ.set i o) vs = L2.wipe σ vs
  | [], h => by cases h
  | v :: vs, h => by
    show (L2.wipe (σ.set i o) vs).set v none = (L2.wipe σ vs).set v none
    by_cases hi : i ∈ vs
    · rw [wipe_set hi]
    · have e : i = v := by
        rcases List.mem_cons.mp h with e | h
        · exact e
        · exact absurd h hi
      subst e
      have com : ∀ {vs : List Nat}, i ∉ vs → L2.wipe (σ.set i o) vs = (L2.wipe σ vs).set i o := by
        intro vs
        induction vs with
        | nil => intro _; rfl
        | cons w ws ih =>
          intro hn
          simp only [List.mem_cons, not_or] at hn
          show (L2.wipe (σ.set i o) ws).set w none = ((L2.wipe σ ws).set w none).set i o
          rw [ih hn.2, List.set_comm _ _ hn.1]
      rw [com hi, List.set_set]
theorem set_in {i : Nat} {o : Option V} {σ : St} : ∀ {vs : List Nat}, L2.wipe (L2.wipe σ vs) vs = L2.wipe σ vs
  | [] => rfl
  | v :: vs => by
    show (L2.wipe ((L2.wipe σ vs).set v none) vs).set v none = (L2.wipe σ vs).set v none
    by_cases h : v ∈ vs
    · rw [wipe_set h, set_in (i := i) (o := o)]
    · have com : ∀ {ws : List Nat} {τ : St}, v ∉ ws → L2.wipe (τ.set v none) ws = (L2.wipe τ ws).set v none := by
        intro ws
        induction ws with
        | nil => intro _ _; rfl
        | cons w ws ih =>
          intro τ hn
          simp only [List.mem_cons, not_or] at hn
          show (L2.wipe (τ.set v none) ws).set w none = ((L2.wipe τ ws).set w none).set v none
          rw [ih hn.2, List.set_comm _ _ hn.1]
      rw [com h, set_in (i := i) (o := o), List.set_set]
/-! targets -/
def gNms : List Nat → TGs
  | [] => gNil
  | i :: is => gCons (gName i) (gNms is)
def gT (K : Fg) : Tg → TG
  | .nm i => gName i
  | .tup is => gTup K is.length (gNms is)
def tgS : Tg → List Nat
  | .nm i => [i]
  | .tup is => is
theorem gNms_ok : ∀ {is : List Nat} {vs : List V} {ds : List D} {ρ ρ1 : Rho} {σ : St} {P : St → Prop}, setAll is ds ρ = some ρ1 → DVs K F vs ds → Rel K F0 H0 F ρ σ H → P σ → (∀ σ i v, P σ → i ∈ is → P (σ.set i (some v))) →
    gNms is vs σ H (fun σ2 H2 => H2 = H ∧ Rel K F0 H0 F ρ1 σ2 H ∧ P σ2)
  | [], vs, [], ρ, ρ1, σ, P, e, t, r, p, hp => by cases e; exact ⟨t.unnil, rfl, r, p⟩
  | [], vs, _ :: _, ρ, ρ1, σ, P, e, t, r, p, hp => by cases e
  | i :: is, vs, [], ρ, ρ1, σ, P, e, t, r, p, hp => by cases e
  | i :: is, vs, d :: ds, ρ, ρ1, σ, P, e, t, r, p, hp => by
    obtain ⟨v, vr, rfl, h1, h2⟩ := t.uncons
    exact ⟨v, vr, rfl, gNms_ok (is := is) e h2 (r.set h1 i) (hp _ _ _ p List.mem_cons_self) fun σ j v q hj => hp σ j v q (List.mem_cons_of_mem _ hj)⟩
theorem setAll_len : ∀ {is : List Nat} {ds : List D} {ρ ρ1 : Rho}, setAll is ds ρ = some ρ1 → ds.length = is.length
  | [], [], _, _, _ => rfl
  | [], _ :: _, _, _, e => by cases e
  | _ :: _, [], _, _, e => by cases e
  | i :: is, d :: ds, ρ, ρ1, e => by
    have e : setAll is ds (ρ.set i (.sh d)) = some ρ1 := e
    rw [List.length_cons, List.length_cons, setAll_len e]
theorem gT_ok {tg : Tg} {P : St → Prop} (e : bindT tg d ρ = some ρ1) (h : DV K F v d) (r : Rel K F0 H0 F ρ σ H) (p : P σ) (hp : ∀ σ i v, P σ → i ∈ tgS tg → P (σ.set i (some v))) :
    gT K tg v σ H (fun σ2 H2 => H2 = H ∧ Rel K F0 H0 F ρ1 σ2 H ∧ P σ2) := by
  cases tg with
  | nm i => cases e; exact ⟨rfl, r.set h i, hp _ _ _ p List.mem_cons_self⟩
  | tup is =>
    cases d with
    | tuple ds =>
      have e : setAll is ds ρ = some ρ1 := e
      obtain ⟨a, xs, ev, hs, t⟩ := h.tup_inv
      exact ⟨a, xs, ev, seqT_mono r.sub hs, by rw [t.length, setAll_len e], gNms_ok e t r p hp⟩
    | _ => cases e
end
theorem gNil_mono {vs : List V} {σ : St} {H : Hp} {Q Q' : St → Hp → Prop} (i : ∀ σ H, Q σ H → Q' σ H) (h : gNil vs σ H Q) : gNil vs σ H Q' := ⟨h.1, i _ _ h.2⟩
theorem gNms_mono : ∀ {is : List Nat} {vs : List V} {σ : St} {H : Hp} {Q Q' : St → Hp → Prop}, (∀ σ H, Q σ H → Q' σ H) → gNms is vs σ H Q → gNms is vs σ H Q'
  | [], vs, σ, H, Q, Q', i, h => gNil_mono i h
  | j :: is, vs, σ, H, Q, Q', i, ⟨v, r, e, h⟩ => ⟨v, r, e, gNms_mono (is := is) i h⟩
theorem gT_mono {K : Fg} {tg : Tg} {v : V} {σ : St} {H : Hp} {Q Q' : St → Hp → Prop} (i : ∀ σ H, Q σ H → Q' σ H) (h : gT K tg v σ H Q) : gT K tg v σ H Q' := by
  cases tg with
  | nm j => exact i _ _ h
  | tup is => obtain ⟨a, xs, e, s, l, h⟩ := h; exact ⟨a, xs, e, s, l, gNms_mono i h⟩
def W0 : WX := fun _ _ _ _ => False
section
variable {X : Cx} {W : WX} {pos : Pos} {k : Nat}
theorem lc_read {fi : Rho → M (List D)} {tg' : Tg} {fe : Rho → M D} {fc : Rho → M Bool} {vs : List Nat} (hin : ∀ i ∈ tgS tg', i ∈ vs) : ∀ σ H Q, TE' X W 1 (fun ρ => (fi ρ).bind fun xs => (noX (lcRun tg' fe fc (DL.wipe ρ vs) xs)).bind fun ys => mkLst ys) σ H Q →
    tLc (TI' X W true fi) (gT X.K tg') (fun σ H Q => ∃ F0 H0 F ρ, Rel X.K F0 H0 F ρ σ H ∧ PostB X W0 F H σ (fc ρ) Q) (fun σ H Q => ∃ F0 H0 F ρ, Rel X.K F0 H0 F ρ σ H ∧ PostE X W0 F H σ 0 (fe ρ) Q) vs σ H Q := by
  intro σ H Q ⟨F0, H0, F, ρ, r, p⟩
  refine ⟨F0, H0, F, ρ, r, ?_⟩
  have p : PostE X W F H σ 1 ((fi ρ).bind fun xs => (noX (lcRun tg' fe fc (DL.wipe ρ (vs)) xs)).bind fun ys => mkLst ys) Q := p
  cases e1 : fi ρ with
  | ex c fs => rw [e1] at p; exact p
  | bad => rw [e1] at p; exact p
  | ok xs =>
    rw [e1] at p
    have p : PostE X W F H σ 1 ((noX (lcRun tg' fe fc (DL.wipe ρ (vs)) xs)).bind fun ys => mkLst ys) Q := p
    intro J F1 H1 g1 y L0 hD
    cases e2 : lcRun tg' fe fc (DL.wipe ρ vs) xs with
    | ex c fs => rw [e2] at p; exact (show False from p).elim
    | bad => rw [e2] at p; exact (show False from p).elim
    | ok zs =>
      rw [e2] at p
      have p : PostE X W F H σ 1 (mkLst zs) Q := p
      unfold mkLst at p
      split at p
      case isFalse => exact p.elim
      rename_i hz
      refine ⟨fun i m H' => m = xs.length - i ∧ i ≤ xs.length ∧ ∃ F2 ws ds, Grow F1 H1 F2 H' ∧ F2 L0 = none ∧ H' L0 = some (.lst ws) ∧ DVs X.K F2 ws ds ∧ (lcRun tg' fe fc (DL.wipe ρ vs) (xs.drop i)).bind (fun ys => .ok (ds ++ ys)) = .ok zs,
        ⟨xs.length, by simp, Nat.zero_le _, F1, [], [], Grow.beside g1.fh hD, g1.fh.none hD, upd_same, .nil, by rw [List.drop_zero, e2]; rfl⟩, ?_⟩
      rintro i m H' ⟨rfl, hi', F2, ws, ds, g2, n2, hw, t, he2⟩
      by_cases hlt : i < xs.length
      · refine .inr ?_
        obtain ⟨x, hx⟩ : ∃ x, xs[i]? = some x := ⟨_, List.getElem?_eq_getElem hlt⟩
        obtain ⟨go, yld⟩ := y.go i x F2 H' hx g2.f g2.h g2.fh
        refine ⟨go, fun H'' => xs.length - (i + 1) = xs.length - (i + 1) ∧ i + 1 ≤ xs.length ∧ ∃ F2 ws ds, Grow F1 H1 F2 H'' ∧ F2 L0 = none ∧ H'' L0 = some (.lst ws) ∧ DVs X.K F2 ws ds ∧ (lcRun tg' fe fc (DL.wipe ρ vs) (xs.drop (i + 1))).bind (fun ys => .ok (ds ++ ys)) = .ok zs,
          fun H'' q => ⟨_, by omega, q⟩, fun v H'' hy => ?_⟩
        obtain ⟨F3, g3, dv⟩ := yld v H'' hy
        have hdrop : xs.drop i = x :: xs.drop (i + 1) := by
          rw [List.drop_eq_getElem_cons hlt]
          rw [List.getElem?_eq_getElem hlt] at hx
          cases hx; rfl
        rw [hdrop] at he2
        have he2 : ((M.ofO (bindT tg' x (DL.wipe ρ vs))).bind fun r1 => (fc r1).bind fun b =>
          if b = true then (fe r1).bind fun y => (lcRun tg' fe fc (DL.wipe ρ vs) (xs.drop (i + 1))).bind fun ys => .ok (y :: ys) else lcRun tg' fe fc (DL.wipe ρ vs) (xs.drop (i + 1))).bind (fun ys => .ok (ds ++ ys)) = .ok zs := he2
        have r3 := (((r.grow g1).grow g2).grow g3).wipe vs
        cases e3 : bindT tg' x (DL.wipe ρ vs) with
        | none => rw [e3] at he2; cases he2
        | some ρ1 =>
          rw [e3] at he2
          have he2 : ((fc ρ1).bind fun b =>
            if b = true then (fe ρ1).bind fun y => (lcRun tg' fe fc (DL.wipe ρ vs) (xs.drop (i + 1))).bind fun ys => .ok (y :: ys) else lcRun tg' fe fc (DL.wipe ρ vs) (xs.drop (i + 1))).bind (fun ys => .ok (ds ++ ys)) = .ok zs := he2
          refine gT_mono ?_ (gT_ok (P := fun τ => L2.wipe τ vs = L2.wipe σ vs) e3 dv r3 (set_in (i := 0) (o := none)) fun τ j u q hj => by rw [wipe_set (hin j hj)]; exact q)
          rintro σ2 H2 ⟨rfl, r4, q4⟩
          refine ⟨q4, F0, H0, F3, ρ1, r4, ?_⟩
          cases e4 : fc ρ1 with
          | ex c fs => rw [e4] at he2; cases he2
          | bad => rw [e4] at he2; cases he2
          | ok b =>
            rw [e4] at he2
            intro F4 H4 g4
            have n3 : F3 L0 = none := g3.keep n2 hw
            have n4 : F4 L0 = none := g4.keep n3 (g3.h _ _ hw)
            have h4 : H4 L0 = some (.lst ws) := g4.h _ _ (g3.h _ _ hw)
            cases b with
            | false =>
              rw [if_neg Bool.false_ne_true]
              exact ⟨rfl, hlt, F4, ws, ds, (g2.trans g3).trans g4, n4, h4, t.mono (g3.f.trans g4.f), he2⟩
            | true =>
              rw [if_pos rfl]
              have he2 : ((fe ρ1).bind fun y => (lcRun tg' fe fc (DL.wipe ρ vs) (xs.drop (i + 1))).bind fun ys => .ok (y :: ys)).bind (fun ys => .ok (ds ++ ys)) = .ok zs := he2
              refine ⟨F0, H0, F4, ρ1, r4.grow g4, ?_⟩
              cases e5 : fe ρ1 with
              | ex c fs => rw [e5] at he2; cases he2
              | bad => rw [e5] at he2; cases he2
              | ok d =>
                rw [e5] at he2
                intro u F5 H5 g5 r5
                have dv5 : DV X.K F5 u d := by unfold Res at r5; rw [if_pos rfl] at r5; exact r5
                have n5 : F5 L0 = none := g5.keep n4 h4
                have h5 := g5.h _ _ h4
                have he3 : (lcRun tg' fe fc (DL.wipe ρ vs) (xs.drop (i + 1))).bind (fun ys => .ok ((ds ++ [d]) ++ ys)) = .ok zs := by
                  cases e6 : lcRun tg' fe fc (DL.wipe ρ vs) (xs.drop (i + 1)) with
                  | ex c fs => rw [e6] at he2; cases he2
                  | bad => rw [e6] at he2; cases he2
                  | ok ys =>
                    rw [e6] at he2
                    rw [← he2]
                    show M.ok (ds ++ [d] ++ ys) = M.ok (ds ++ d :: ys)
                    rw [List.append_assoc]; rfl
                have lz : ds.length < zs.length := by
                  cases e6 : lcRun tg' fe fc (DL.wipe ρ vs) (xs.drop (i + 1)) with
                  | ex c fs => rw [e6] at he3; cases he3
                  | bad => rw [e6] at he3; cases he3
                  | ok ys =>
                    rw [e6] at he3
                    cases he3
                    simp only [List.length_append, List.length_cons, List.length_nil]
                    omega
                have G : Grow F1 H1 F5 H5 := ((g2.trans g3).trans g4).trans g5
                refine ⟨ws, h5, by rw [t.length]; exact Nat.lt_of_lt_of_le lz (by rw [← line_eq]; exact hz), rfl, hlt, F5, ws ++ [u], ds ++ [d], ⟨G.f, fun b o q => ?_, fun b o q => ?_, G.new, G.fz⟩, n5, upd_same, (t.mono (g3.f.trans (g4.f.trans g5.f))).append (.cons dv5 .nil), he3⟩
                · rw [upd_ne (ne_of_none q hD)]; exact G.h b o q
                · rw [upd_ne (ne_of_none q n5)]; exact G.fh b o q
      · have e : i = xs.length := by omega
        subst e
        refine .inl ⟨y.stop F2 H' g2.f g2.h g2.fh, ?_⟩
        rw [List.drop_length] at he2
        have he2 : (M.ok (ds ++ []) : M (List D)) = .ok zs := he2
        rw [List.append_nil] at he2
        cases he2
        exact p (.ref L0) F2 H' (g1.trans g2) (.fresh (g1.h.none hD) n2 hw t)
theorem s_lc {elt tg iter : Expr} {ifs : List Expr} {scope : Scope} {own : List (Str × Nat)} {fi : Rho → M (List D)} {tg' : Tg} {fe : Rho → M D} {fc : Rho → M Bool} (hc : X.calm = true) (hN : X.N.Nodup) (hi : PI X tg iter (TI' X W true fi)) (ok : BlkOk X.N X.env.scope scope own)
    (hin : ∀ i ∈ tgS tg', i ∈ own.map (·.2))
    (hg : ∀ (s : Shared) (H : Hp) (C : Addr) (cl : List (Str × Addr)) (fp : List Addr), PG (X.blk s H scope (compEnvC scope cl C X.env) fp) tg (gT X.K tg'))
    (ht : ∀ (s : Shared) (H : Hp) (C : Addr) (cl : List (Str × Addr)) (fp : List Addr), PTs (X.blk s H scope (compEnvC scope cl C X.env) fp) ifs (TT' (X.blk s H scope (compEnvC scope cl C X.env) fp) W0 fc))
    (he : ∀ (s : Shared) (H : Hp) (C : Addr) (cl : List (Str × Addr)) (fp : List Addr), PE (X.blk s H scope (compEnvC scope cl C X.env) fp) elt (TE' (X.blk s H scope (compEnvC scope cl C X.env) fp) W0 0 fe))
    (hs : ∀ x, foldedSetIterable iter X.env x = pure x) :
    PE X (.ListComp elt [⟨tg, iter, ifs, 0⟩] scope pos) (TE' X W 1 fun ρ => (fi ρ).bind fun xs => (noX (lcRun tg' fe fc (DL.wipe ρ (own.map (·.2))) xs)).bind fun ys => mkLst ys) :=
  PE.imp (pe_lc (te := fun σ H Q => ∃ F0 H0 F ρ, Rel X.K F0 H0 F ρ σ H ∧ PostE X W0 F H σ 0 (fe ρ) Q) (tt := fun σ H Q => ∃ F0 H0 F ρ, Rel X.K F0 H0 F ρ σ H ∧ PostB X W0 F H σ (fc ρ) Q) hc hN hi ok hg ht he hs) (lc_read hin)
theorem s_setLc {i : Nat} {y : Str} {py spos : Pos} {elt tg iter : Expr} {ifs : List Expr} {scope : Scope} {own : List (Str × Nat)} {fi : Rho → M (List D)} {tg' : Tg} {fe : Rho → M D} {fc : Rho → M Bool} (hc : X.calm = true) (hN : X.N.Nodup) (hy : X.N[i]? = some y) (hyl : X.env.scope.names.lookup y = some .local)
    (hsw : swapsWith (.ListComp elt [⟨tg, iter, ifs, 0⟩] scope pos) (some (.Name y py)) spos.line X.env = pure true) (hi : PI X tg iter (TI' X W true fi)) (ok : BlkOk X.N X.env.scope scope own)
    (hin : ∀ i ∈ tgS tg', i ∈ own.map (·.2))
    (hg : ∀ (s : Shared) (H : Hp) (C : Addr) (cl : List (Str × Addr)) (fp : List Addr), PG (X.blk s H scope (compEnvC scope cl C X.env) fp) tg (gT X.K tg'))
    (ht : ∀ (s : Shared) (H : Hp) (C : Addr) (cl : List (Str × Addr)) (fp : List Addr), PTs (X.blk s H scope (compEnvC scope cl C X.env) fp) ifs (TT' (X.blk s H scope (compEnvC scope cl C X.env) fp) W0 fc))
    (he : ∀ (s : Shared) (H : Hp) (C : Addr) (cl : List (Str × Addr)) (fp : List Addr), PE (X.blk s H scope (compEnvC scope cl C X.env) fp) elt (TE' (X.blk s H scope (compEnvC scope cl C X.env) fp) W0 0 fe))
    (hs : ∀ x, foldedSetIterable iter X.env x = pure x) :
    PS X (.Assign [.Name y py] (.ListComp elt [⟨tg, iter, ifs, 0⟩] scope pos) spos) (tAsg (TE' X W 1 fun ρ => (fi ρ).bind fun xs => (noX (lcRun tg' fe fc (DL.wipe ρ (own.map (·.2))) xs)).bind fun ys => mkLst ys) (gName i)) := by
  have h := ps_setLc (te := fun σ H Q => ∃ F0 H0 F ρ, Rel X.K F0 H0 F ρ σ H ∧ PostE X W0 F H σ 0 (fe ρ) Q) (tt := fun σ H Q => ∃ F0 H0 F ρ, Rel X.K F0 H0 F ρ σ H ∧ PostB X W0 F H σ (fc ρ) Q) hc hN hy hyl hsw hi ok hg ht he hs
  exact ⟨fun pins s σ H Q I q => h.run pins s σ H Q I (lc_read hin σ H _ q)⟩
end
end DL

/-! DStm: statements keep their plain meaning. -/
namespace DL
open PySem PySem.Spec PyProof.Rows L2
def PostS (X : Cx) (W : WX) (F0 H0 : Hp) (n : Nat) (m : M Fl) (Q : Ends) : Prop := match m with
  | .ok (.next ρ) => ∀ σ' F' H', σ'.length = n → Rel X.K F0 H0 F' ρ σ' H' → Q.nx σ' H'
  | .ok (.brk ρ) => ∀ σ' F' H', σ'.length = n → Rel X.K F0 H0 F' ρ σ' H' → Q.bk σ' H'
  | .ok (.cont ρ) => ∀ σ' F' H', σ'.length = n → Rel X.K F0 H0 F' ρ σ' H' → Q.ct σ' H'
  | .ok (.ret d) => ∀ v F' H', Grow F0 H0 F' H' → DV X.K F' v d → Q.rt v H'
  | .ex c fs => ∀ σ' F' H' cls dd, σ'.length = n → Grow F0 H0 F' H' → XR X.mg X.K F' H' c fs cls dd → W cls dd σ' H'
  | .bad => False
def TS' (X : Cx) (W : WX) (f : Rho → M Fl) : TS := fun Q σ H => ∃ F0 H0 F ρ, Rel X.K F0 H0 F ρ σ H ∧ PostS X W F0 H0 σ.length (f ρ) Q
theorem PS.imp {X : Cx} {e : Stmt} {t t' : TS} (h : PS X e t) (i : ∀ Q σ H, t' Q σ H → t Q σ H) : PS X e t' := ⟨fun pins s σ H Q I q => h.run pins s σ H Q I (i Q σ H q)⟩
theorem PSs.imp {X : Cx} {e : List Stmt} {t t' : TS} (h : PSs X e t) (i : ∀ Q σ H, t' Q σ H → t Q σ H) : PSs X e t' := ⟨fun pins s σ H Q I q => h.run pins s σ H Q I (i Q σ H q)⟩
section
variable {K : Fg} {F0 H0 F H F' H' : Hp} {ρ ρ1 : Rho} {σ : St} {v : V} {d : D} {i : Nat} {a : Addr}
theorem Rel.grow0 (r : Rel K F0 H0 F ρ σ H) : Grow F0 H0 F H := ⟨r.f0, r.same, r.sub, r.new, r.fz⟩
theorem Rel.base (r : Rel K F0 H0 F ρ σ H) : Rel K F H0 F ρ σ H := ⟨r.len, r.sub, Sub.refl _, r.same, fun _ h => .inl h, fun _ _ _ h => h, r.slot, r.apart⟩
theorem Rel.back {σ' : St} {F1 : Hp} (r : Rel K F0 H0 F ρ σ H) (q : Rel K F H0 F1 ρ1 σ' H') : Rel K F0 H0 F1 ρ1 σ' H' :=
  ⟨q.len, q.sub, r.f0.trans q.f0, q.same, fun a h => (q.new a h).elim (fun z => r.new a z) .inr, fun a o u h => r.fz a o u (q.fz a o u h), q.slot, q.apart⟩
theorem Rel.gback {F1 : Hp} (r : Rel K F0 H0 F ρ σ H) (q : Grow F H0 F1 H') : Grow F0 H0 F1 H' := ⟨r.f0.trans q.f, q.h, q.fh, fun a h => (q.new a h).elim (fun z => r.new a z) .inr, fun a o u h => r.fz a o u (q.fz a o u h)⟩
/-- a fresh list in a slot -/
theorem Rel.setOwn {F1 H1 : Hp} (r : Rel K F0 H0 F ρ σ H) (g : Grow F H F1 H1) (f : F1 a = none) (n : H a = none) (rt : Root K F1 H1 a d) (i : Nat) : Rel K F0 H0 F1 (ρ.set i (.own d)) (σ.set i (some (.ref a))) H1 := by
  have q := r.grow g
  have gone : ∀ {j : Nat} {s : Sl}, ρ[j]? = some s → σ[j]? = some (some (.ref a)) → (∀ e, s ≠ .own e) ∧ ∀ e, s = .bor e → DV K F1 (.ref a) e := by
    intro j s h1 h2
    have h := r.slot j s h1
    cases s with
    | un => exact ⟨fun e z => (by cases z), fun e z => (by cases z)⟩
    | sh e => exact ⟨fun e z => (by cases z), fun e z => (by cases z)⟩
    | dic e => exact ⟨fun e z => (by cases z), fun e z => (by cases z)⟩
    | own e =>
      obtain ⟨b, e1, _, _, r1⟩ := h
      rw [h2] at e1
      cases e1
      cases e with
      | list ds => obtain ⟨vs, h3, _⟩ := r1; rw [n] at h3; cases h3
      | _ => exact r1.elim
    | bor e =>
      refine ⟨fun e z => (by cases z), fun e' z => ?_⟩
      cases z
      obtain ⟨u, e1, r1⟩ := h
      rw [h2] at e1
      cases e1
      rcases r1 with r1 | ⟨b, e2, _, r1⟩
      · exact r1.mono g.f
      · cases e2
        cases e with
        | list ds => obtain ⟨vs, h3, _⟩ := r1; rw [n] at h3; cases h3
        | _ => exact r1.elim
  refine ⟨by rw [List.length_set, List.length_set]; exact r.len, q.sub, q.f0, q.same, q.new, q.fz, fun j s e => ?_, fun j k d' b h1 h2 hjk h3 => ?_⟩
  · by_cases hj : i = j
    · subst hj
      by_cases hl : i < ρ.length
      · rw [List.getElem?_set_self hl] at e
        cases e
        exact ⟨a, by rw [List.getElem?_set_self (by rw [← r.len]; exact hl)], f, r.same.none n, rt⟩
      · rw [List.getElem?_eq_none (by simpa using hl)] at e; cases e
    · rw [List.getElem?_set_ne hj] at e
      rw [List.getElem?_set_ne hj]
      exact q.slot j s e
  · by_cases hj : i = j
    · subst hj
      rw [List.getElem?_set_ne hjk] at h3 ⊢
      by_cases hl : i < ρ.length
      · rw [List.getElem?_set_self (by rw [← r.len]; exact hl)] at h2
        cases h2
        cases hk : ρ[k]? with
        | none => exact ⟨fun e z => (by cases z), fun e z => (by cases z)⟩
        | some s =>
          obtain ⟨z1, z2⟩ := gone hk h3
          exact ⟨fun e z => z1 e (Option.some.inj z), fun e z => z2 e (Option.some.inj z)⟩
      · rw [List.getElem?_eq_none (by simpa using hl)] at h1; cases h1
    · rw [List.getElem?_set_ne hj] at h1 h2
      by_cases hk : i = k
      · subst hk
        by_cases hl : i < ρ.length
        · rw [List.getElem?_set_self (by rw [← r.len]; exact hl)] at h3
          cases h3
          obtain ⟨z1, _⟩ := gone h1 h2
          exact absurd rfl (z1 d')
        · rw [List.getElem?_eq_none (by rw [List.length_set, ← r.len]; simpa using hl)] at h3; cases h3
      · rw [List.getElem?_set_ne hk] at h3 ⊢
        exact q.apart j k d' b h1 h2 hjk h3
/-- a slot's list gets one more item -/
theorem Rel.app {xs : List D} {vs : List V} (r : Rel K F0 H0 F ρ σ H) (e : ρ[i]? = some (.own (.list xs))) (es : σ[i]? = some (some (.ref a))) (hv : H a = some (.lst vs)) (h : DV K F v d) :
    Rel K F0 H0 F (ρ.set i (.own (.list (xs ++ [d])))) σ (upd H a (.lst (vs ++ [v]))) := by
  obtain ⟨b, e1, f, n, ws, h1, h2⟩ := r.slot i _ e
  rw [es] at e1; cases e1
  rw [hv] at h1; cases h1
  have keep : ∀ {b : Addr} {o : HO}, b ≠ a → H b = some o → upd H a (.lst (vs ++ [v])) b = some o := fun hb q => by rw [upd_ne hb]; exact q
  refine ⟨by rw [List.length_set]; exact r.len, fun b o q => ?_, r.f0, fun b o q => ?_, r.new, r.fz, fun j s q => ?_, fun j k d' b h3 h4 hjk h5 => ?_⟩
  · exact keep (ne_of_none q f) (r.sub b o q)
  · exact keep (ne_of_none q n) (r.same b o q)
  · by_cases hj : i = j
    · subst hj
      have hl : i < ρ.length := (List.getElem?_eq_some_iff.mp e).1
      rw [List.getElem?_set_self hl] at q
      cases q
      exact ⟨a, es, f, n, _, upd_same, h2.append (.cons h .nil)⟩
    · rw [List.getElem?_set_ne hj] at q
      have z := r.slot j s q
      cases s with
      | un => trivial
      | sh d => exact z
      | dic kvs =>
        obtain ⟨b, us, e2, f2, n2, h6, h7⟩ := z
        have hb : b ≠ a := fun hb => by subst hb; rw [h6] at hv; cases hv
        exact ⟨b, us, e2, f2, n2, keep hb h6, h7⟩
      | own d' =>
        obtain ⟨b, e2, f2, n2, rt⟩ := z
        by_cases hb : b = a
        · subst hb
          exact absurd q ((r.apart i j _ b e es hj e2).1 d')
        · exact ⟨b, e2, f2, n2, by
            cases d' with
            | list ds => obtain ⟨us, h6, h7⟩ := rt; exact ⟨us, keep hb h6, h7⟩
            | _ => exact rt⟩
      | bor d' =>
        obtain ⟨u, e2, bv⟩ := z
        refine ⟨u, e2, ?_⟩
        rcases bv with bv | ⟨b, e3, f3, rt⟩
        · exact .inl bv
        · subst e3
          by_cases hb : b = a
          · subst hb
            exact .inl ((r.apart i j _ b e es hj e2).2 d' q)
          · exact .inr ⟨b, rfl, f3, by
              cases d' with
              | list ds => obtain ⟨us, h6, h7⟩ := rt; exact ⟨us, keep hb h6, h7⟩
              | _ => exact rt⟩
  · have hl : i < ρ.length := (List.getElem?_eq_some_iff.mp e).1
    have fix : ∀ {j : Nat} {d' : D}, (ρ.set i (.own (.list (xs ++ [d]))))[j]? = some (.own d') → ∃ d'', ρ[j]? = some (.own d'') := by
      intro j d' q
      by_cases hj : i = j
      · subst hj; exact ⟨_, e⟩
      · rw [List.getElem?_set_ne hj] at q; exact ⟨_, q⟩
    obtain ⟨d'', h3⟩ := fix h3
    obtain ⟨z1, z2⟩ := r.apart j k d'' b h3 h4 hjk h5
    refine ⟨fun e' q => ?_, fun e' q => ?_⟩
    · obtain ⟨d3, q⟩ := fix q; exact z1 _ q
    · by_cases hk : i = k
      · subst hk; rw [List.getElem?_set_self hl] at q; cases q
      · rw [List.getElem?_set_ne hk] at q; exact z2 e' q
/-- a slot's list is shared from now on -/
theorem Rel.frz {xs : List D} (r : Rel K F0 H0 F ρ σ H) (e : ρ[i]? = some (.own (.list xs))) : ∃ F1, Rel K F0 H0 F1 (ρ.set i (.sh (.list xs))) σ H := by
  obtain ⟨a, es, f, n, vs, h1, h2⟩ := r.slot i _ e
  have hl : i < ρ.length := (List.getElem?_eq_some_iff.mp e).1
  have m : Sub F (upd F a (.lst vs)) := sub_upd f
  refine ⟨upd F a (.lst vs), by rw [List.length_set]; exact r.len, fun b o q => ?_, r.f0.trans m, r.same, fun b q => ?_, fun b o u q => (by
    by_cases hb : b = a
    · subst hb; rw [upd_same] at q; cases q
    · rw [upd_ne hb] at q; exact r.fz b o u q), fun j s q => ?_, fun j k d' b h3 h4 hjk h5 => ?_⟩
  · by_cases hb : b = a
    · subst hb; rw [upd_same] at q; cases q; exact h1
    · rw [upd_ne hb] at q; exact r.sub b o q
  · by_cases hb : b = a
    · subst hb; exact .inr n
    · rw [upd_ne hb] at q; exact r.new b q
  · by_cases hj : i = j
    · subst hj
      rw [List.getElem?_set_self hl] at q
      cases q
      exact ⟨_, es, .lst (.inl (.inl upd_same)) (h2.mono m)⟩
    · rw [List.getElem?_set_ne hj] at q
      have z := r.slot j s q
      cases s with
      | un => trivial
      | sh d => obtain ⟨u, e2, z⟩ := z; exact ⟨u, e2, z.mono m⟩
      | dic kvs =>
        obtain ⟨b, us, e2, f2, n2, h6, h7⟩ := z
        have hb : b ≠ a := fun hb => by subst hb; rw [h6] at h1; cases h1
        exact ⟨b, us, e2, by rw [upd_ne hb]; exact f2, n2, h6, h7.mono m⟩
      | own d' =>
        obtain ⟨b, e2, f2, n2, rt⟩ := z
        have hb : b ≠ a := fun hb => by subst hb; exact absurd q ((r.apart i j _ b e es hj e2).1 d')
        exact ⟨b, e2, by rw [upd_ne hb]; exact f2, n2, rt.mono m fun _ q => q⟩
      | bor d' =>
        obtain ⟨u, e2, bv⟩ := z
        refine ⟨u, e2, ?_⟩
        rcases bv with bv | ⟨b, e3, f3, rt⟩
        · exact .inl (bv.mono m)
        · subst e3
          by_cases hb : b = a
          · subst hb
            exact .inl (((r.apart i j _ b e es hj e2).2 d' q).mono m)
          · exact .inr ⟨b, rfl, by rw [upd_ne hb]; exact f3, rt.mono m fun _ q => q⟩
  · have hi : i ≠ j := fun z => by subst z; rw [List.getElem?_set_self hl] at h3; cases h3
    rw [List.getElem?_set_ne hi] at h3
    by_cases hk : i = k
    · subst hk
      rw [List.getElem?_set_self hl]
      exact ⟨fun e z => (by cases z), fun e z => (by cases z)⟩
    · rw [List.getElem?_set_ne hk]
      obtain ⟨z1, z2⟩ := r.apart j k d' b h3 h4 hjk h5
      exact ⟨z1, fun e q => (z2 e q).mono m⟩
end
section
variable {X : Cx} {W : WX} {F0 H0 F H F1 H1 : Hp} {ρ : Rho} {σ : St} {k k1 : Nat} {Q : Ends} {pos p : Pos}
theorem PostS.seqE {m : M D} {f : D → M Fl} {R : VK} (r : Rel X.K F0 H0 F ρ σ H) (q : PostS X W F0 H0 σ.length (m.bind f) Q) (h : ∀ d v F1 H1, Grow F H F1 H1 → Res k X.K F1 H1 H v d → PostS X W F0 H0 σ.length (f d) Q → R v H1) : PostE X W F H σ k m R := by
  cases m with
  | ok d => exact fun v F1 H1 g z => h d v F1 H1 g z q
  | ex c fs => exact fun F1 H1 cls dd g z => q σ F1 H1 cls dd rfl (r.grow0.trans g) z
  | bad => exact q
theorem PostS.seqB {m : M Bool} {f : Bool → M Fl} {R : Bool → Hp → Prop} (r : Rel X.K F0 H0 F ρ σ H) (q : PostS X W F0 H0 σ.length (m.bind f) Q) (h : ∀ b F1 H1, Grow F H F1 H1 → PostS X W F0 H0 σ.length (f b) Q → R b H1) : PostB X W F H σ m R := by
  cases m with
  | ok d => exact fun F1 H1 g => h d F1 H1 g q
  | ex c fs => exact fun F1 H1 cls dd g z => q σ F1 H1 cls dd rfl (r.grow0.trans g) z
  | bad => exact q
theorem PostS.seqI {m : M (List D)} {f : List D → M Fl} {R : L2.It → Hp → Prop} {b : Bool} (r : Rel X.K F0 H0 F ρ σ H) (q : PostS X W F0 H0 σ.length (m.bind f) Q) (h : ∀ xs J F1 H1, Grow F H F1 H1 → Ylds X.K F1 (sel b H1) J xs → PostS X W F0 H0 σ.length (f xs) Q → R J H1) : PostI X W F H σ b m R := by
  cases m with
  | ok xs => exact fun J F1 H1 g z => h xs J F1 H1 g z q
  | ex c fs => exact fun F1 H1 cls dd g z => q σ F1 H1 cls dd rfl (r.grow0.trans g) z
  | bad => exact q
theorem PostS.seqL {m : M (List D)} {f : List D → M Fl} {ks : List Nat} {R : List V → Hp → Prop} (r : Rel X.K F0 H0 F ρ σ H) (q : PostS X W F0 H0 σ.length (m.bind f) Q) (h : ∀ ds vs F1 H1, Grow F H F1 H1 → ResL X.K F1 H1 H ks vs ds → PostS X W F0 H0 σ.length (f ds) Q → R vs H1) : PostL X W F H σ ks m R := by
  cases m with
  | ok xs => exact fun J F1 H1 g z => h xs J F1 H1 g z q
  | ex c fs => exact fun F1 H1 cls dd g z => q σ F1 H1 cls dd rfl (r.grow0.trans g) z
  | bad => exact q
theorem ss_nil : PSs X [] (TS' X W fun ρ => .ok (.next ρ)) := PSs.imp pss_nil fun Q σ H ⟨F0, H0, F, ρ, r, q⟩ => q σ F H rfl r
theorem ss_cons {st : Stmt} {sts : List Stmt} {f g : Rho → M Fl} (h : PS X st (TS' X W f)) (t : PSs X sts (TS' X W g)) : PSs X (st :: sts) (TS' X W fun ρ => onNext (f ρ) g) := by
  refine PSs.imp (pss_cons h t) fun Q σ H ⟨F0, H0, F, ρ, r, q⟩ => ⟨F0, H0, F, ρ, r, ?_⟩
  have q : PostS X W F0 H0 σ.length (onNext (f ρ) g) Q := q
  cases e : f ρ with
  | ex c fs => rw [e] at q; exact q
  | bad => rw [e] at q; exact q
  | ok fl =>
    rw [e] at q
    cases fl with
    | next ρ' => exact fun σ' F' H' hl r' => ⟨F0, H0, F', ρ', r', by rw [hl]; exact q⟩
    | brk ρ' => exact q
    | cont ρ' => exact q
    | ret d => exact q
theorem st_ret {e : Expr} {f : Rho → M D} (h : PE X e (TE' X W 0 f)) : PS X (.Return (some e) pos) (TS' X W fun ρ => (f ρ).bind fun d => .ok (.ret d)) :=
  PS.imp (ps_ret h) fun Q σ H ⟨F0, H0, F, ρ, r, q⟩ => ⟨F0, H0, F, ρ, r, PostS.seqE r q fun d v F1 H1 g z q1 => q1 v F1 H1 (r.grow0.trans g) (by unfold Res at z; rw [if_pos rfl] at z; exact z)⟩
theorem st_retN : PS X (.Return none pos) (TS' X W fun _ => .ok (.ret .none)) :=
  PS.imp ps_retN fun Q σ H ⟨F0, H0, F, ρ, r, q⟩ => q _ F H r.grow0 .none
theorem st_pass : PS X (.Pass pos) (TS' X W fun ρ => .ok (.next ρ)) := PS.imp ps_pass fun Q σ H ⟨F0, H0, F, ρ, r, q⟩ => q σ F H rfl r
theorem st_doc {x j pos'} : PS X (.Expr (.Constant (.str x) j pos) pos') (TS' X W fun ρ => .ok (.next ρ)) := PS.imp ps_doc fun Q σ H ⟨F0, H0, F, ρ, r, q⟩ => q σ F H rfl r
theorem st_brk : PS X (.Break pos) (TS' X W fun ρ => .ok (.brk ρ)) := PS.imp ps_break fun Q σ H ⟨F0, H0, F, ρ, r, q⟩ => q σ F H rfl r
theorem st_cont : PS X (.Continue pos) (TS' X W fun ρ => .ok (.cont ρ)) := PS.imp ps_continue fun Q σ H ⟨F0, H0, F, ρ, r, q⟩ => q σ F H rfl r
theorem st_expr {e : Expr} {f : Rho → M D} (h : PE X e (TE' X W k f)) (hs : swapsWith e none pos.line X.env = pure false) : PS X (.Expr e pos) (TS' X W fun ρ => (f ρ).bind fun _ => .ok (.next ρ)) :=
  PS.imp (ps_expr h hs) fun Q σ H ⟨F0, H0, F, ρ, r, q⟩ => ⟨F0, H0, F, ρ, r, PostS.seqE r q fun d v F1 H1 g z q1 => q1 σ F1 H1 rfl (r.grow g)⟩
theorem st_ifs {c : Expr} {a b : List Stmt} {fc : Rho → M Bool} {fa fb : Rho → M Fl} (hc : PT X c (TT' X W fc)) (ha : PSs X a (TS' X W fa)) (hb : PSs X b (TS' X W fb)) :
    PS X (.If c a b pos) (TS' X W fun ρ => (fc ρ).bind fun k => if k = true then fa ρ else fb ρ) := by
  refine PS.imp (ps_if hc ha hb) fun Q σ H ⟨F0, H0, F, ρ, r, q⟩ => ⟨F0, H0, F, ρ, r, PostS.seqB r q fun k F1 H1 g q1 => ?_⟩
  cases k with
  | true => rw [if_pos rfl] at q1 ⊢; exact ⟨F0, H0, F1, ρ, r.grow g, q1⟩
  | false => rw [if_neg Bool.false_ne_true] at q1 ⊢; exact ⟨F0, H0, F1, ρ, r.grow g, q1⟩
/-- a value is stored -/
theorem stored {e : E} {o : Bool} {i : Nat} {v : V} {d : D} (r : Rel X.K F0 H0 F ρ σ H) (g : Grow F H F1 H1) (hk : fl e ≠ 2) (z : Res (fl e) X.K F1 H1 H v d) (q : PostS X W F0 H0 σ.length (.ok (.next (ρ.set i (put o e d)))) Q) : Q.nx (σ.set i (some v)) H1 := by
  unfold put at q
  split at q
  · rename_i ho
    have z : Res 1 X.K F1 H1 H v d := by rw [← ho.2]; exact z
    cases d with
    | list ds =>
      unfold Res at z
      rw [if_neg (by decide), if_pos rfl, if_pos (show isRoot _ = true from rfl)] at z
      obtain ⟨a, e1, f, n, rt⟩ := z
      subst e1
      exact q _ F1 H1 (by rw [List.length_set]) (r.setOwn g f n rt i)
    | dict kvs =>
      unfold Res at z
      rw [if_neg (by decide), if_pos rfl, if_pos (show isRoot _ = true from rfl)] at z
      obtain ⟨a, e1, f, n, rt⟩ := z
      exact rt.elim
    | _ =>
      unfold Res at z
      rw [if_neg (by decide), if_pos rfl, if_neg (fun w => by cases w)] at z
      exact q _ F1 H1 (by rw [List.length_set]) ((r.grow g).set z i)
  · have hk' : fl e = 0 ∨ fl e = 1 := by
      have : fl e ≤ 2 := by cases e <;> simp [fl]
      omega
    obtain ⟨F2, g2, _, h2⟩ := z.share hk' g
    exact q _ F2 H1 (by rw [List.length_set]) ((r.grow g2).set h2 i)
theorem st_asg {e : Expr} {e' : E} {o : Bool} {i : Nat} {x : Str} {pos' : Pos} {f : Rho → M D} (hN : X.N.Nodup) (hi : X.N[i]? = some x) (hx : Loc X.env.scope x) (hf : X.fn x = true ∨ X.env.scope.names.lookup x = some .local) (hk : fl e' ≠ 2) (h : PE X e (TE' X W (fl e') f)) (hs : swapsWith e (some (.Name x pos')) pos.line X.env = pure false) :
    PS X (.Assign [.Name x pos'] e pos) (TS' X W fun ρ => (f ρ).bind fun d => .ok (.next (ρ.set i (put o e' d)))) :=
  PS.imp (ps_set hN hi hx h hs hf) fun Q σ H ⟨F0, H0, F, ρ, r, q⟩ => ⟨F0, H0, F, ρ, r, PostS.seqE r q fun d v F1 H1 g z q1 => stored r g hk z q1⟩
theorem st_asgOf {st : Stmt} {e' : E} {o : Bool} {i : Nat} {f : Rho → M D} (hk : fl e' ≠ 2) (h : PS X st (tAsg (TE' X W (fl e') f) (gName i))) :
    PS X st (TS' X W fun ρ => (f ρ).bind fun d => .ok (.next (ρ.set i (put o e' d)))) :=
  PS.imp h fun Q σ H ⟨F0, H0, F, ρ, r, q⟩ => ⟨F0, H0, F, ρ, r, PostS.seqE r q fun d v F1 H1 g z q1 => stored r g hk z q1⟩
theorem st_unp {e tg : Expr} {is : List Nat} {f : Rho → M D} (hg : PG X tg (gT X.K (.tup is))) (h : PE X e (TE' X W 0 f)) (hs : swapsWithSole [tg] e pos.line X.env = pure false) (hw : swappedStores [tg] e X.env = pure none) (h1 : (assignEach [tg] X.env).map (·.2) = [assign tg X.env]) :
    PS X (.Assign [tg] e pos) (TS' X W fun ρ => (f ρ).bind fun d => (M.ofO (bindT (.tup is) d ρ)).bind fun r1 => .ok (.next r1)) := by
  refine PS.imp (ps_asg h hg hs hw h1) fun Q σ H ⟨F0, H0, F, ρ, r, q⟩ => ⟨F0, H0, F, ρ, r, PostS.seqE r q fun d v F1 H1 g z q1 => ?_⟩
  have z : DV X.K F1 v d := by unfold Res at z; rw [if_pos rfl] at z; exact z
  cases e1 : bindT (.tup is) d ρ with
  | none => rw [e1] at q1; exact (show False from q1).elim
  | some ρ1 =>
    rw [e1] at q1
    exact gT_mono (fun σ2 H2 ⟨e2, r2, hl⟩ => by subst e2; exact q1 σ2 F1 H2 hl r2) (gT_ok (P := fun τ => τ.length = σ.length) e1 z (r.grow g) rfl fun τ _ _ hp _ => by rw [List.length_set]; exact hp)
theorem st_par {i j : Nat} {x y : Str} {a b : Expr} {px py pt : Pos} {kt k2 : Nat} {pt2 : Pos} {fa fb : Rho → M D} (hc : X.calm = true) (hN : X.N.Nodup) (hi : X.N[i]? = some x) (hj : X.N[j]? = some y) (hij : i ≠ j)
    (hx : X.env.scope.names.lookup x = some .local) (hy : X.env.scope.names.lookup y = some .local) (ha : PE X a (TE' X W 0 fa)) (hb : PE X b (TE' X W 0 fb)) (na : ∀ x p, a ≠ .Starred x p) (nb : ∀ x p, b ≠ .Starred x p)
    (hw : swappedStores [.Tuple [.Name x px, .Name y py] kt pt] (.Tuple [a, b] k2 pt2) X.env = pure (some [x, y]))
    (hs : swapsWithSole [.Tuple [.Name x px, .Name y py] kt pt] (.Tuple [a, b] k2 pt2) pos.line X.env = pure false) :
    PS X (.Assign [.Tuple [.Name x px, .Name y py] kt pt] (.Tuple [a, b] k2 pt2) pos) (TS' X W fun ρ => (fa ρ).bind fun x => (fb ρ).bind fun y => .ok (.next ((ρ.set i (.sh x)).set j (.sh y)))) := by
  refine PS.imp (ps_par hc hN hi hj hij hx hy (pa_cons ha (pa_cons hb pa_nil (star_cons nb _ _)) (star_cons na _ _)) hw hs) fun Q σ H ⟨F0, H0, F, ρ, r, q⟩ => ⟨F0, H0, F, ρ, r, PostS.seqE r q fun d v F1 H1 g z q1 => ⟨F0, H0, F1, ρ, r.grow g, PostS.seqE (r.grow g) q1 fun d2 v2 F2 H2 g2 z2 q2 => ?_⟩⟩
  have z : DV X.K F1 v d := by unfold Res at z; rw [if_pos rfl] at z; exact z
  have z2 : DV X.K F2 v2 d2 := by unfold Res at z2; rw [if_pos rfl] at z2; exact z2
  exact ⟨v, v2, rfl, q2 _ F2 H2 (by rw [List.length_set, List.length_set]) ((((r.grow g).grow g2).set (z.mono g2.f) i).set z2 j)⟩
theorem st_retOwn {i : Nat} {x : Str} {p : Pos} (hN : X.N[i]? = some x) (hv : Vis X.env.scope x) (hd : (x == ("__debug__" : Str)) = false) (hcd : (x == ("__classdict__" : Str)) = false) :
    PS X (.Return (some (.Name x p)) pos) (TS' X W fun ρ => match ρ[i]? with
      | some (.own d) => .ok (.ret d)
      | _ => .bad) := by
  refine PS.imp (ps_ret (pe_var hN hv hd hcd)) fun Q σ H ⟨F0, H0, F, ρ, r, q⟩ => ?_
  dsimp only at q
  split at q
  · rename_i d e
    obtain ⟨a, es, f, n, rt⟩ := r.slot i _ e
    cases d with
    | list ds =>
      obtain ⟨vs, h1, h2⟩ := rt
      refine ⟨_, es, q _ (upd F a (.lst vs)) H ⟨r.f0.trans (sub_upd f), r.same, fun b o z => ?_, fun b z => ?_, fun b o u z => ?_⟩ (.lst (.inl (.inl upd_same)) (h2.mono (sub_upd f)))⟩
      · by_cases hb : b = a
        · subst hb; rw [upd_same] at z; cases z; exact h1
        · rw [upd_ne hb] at z; exact r.sub b o z
      · by_cases hb : b = a
        · subst hb; exact .inr n
        · rw [upd_ne hb] at z; exact r.new b z
      · by_cases hb : b = a
        · subst hb; rw [upd_same] at z; cases z
        · rw [upd_ne hb] at z; exact r.fz b o u z
    | _ => exact rt.elim
  · exact q.elim
theorem st_app {i : Nat} {x : Str} {e : Expr} {f : Rho → M D} {px ap cp : Pos} (hN : X.N[i]? = some x) (hv : Vis X.env.scope x) (hd : (x == ("__debug__" : Str)) = false) (hcd : (x == ("__classdict__" : Str)) = false)
    (h : PE X e (TE' X W 0 f)) (ns : ∀ x p, e ≠ .Starred x p) (hbase : attributeBase (.Name x px) ("append" : Str) X.env (eval (.Name x px) X.env) = eval (.Name x px) X.env)
    (hline : (ap.endLine == cp.line) = true) :
    PS X (.Expr (.Call (.Attribute (.Name x px) "append" ap) [e] [] cp) pos) (TS' X W fun ρ => match ρ[i]? with
      | some (.own (.list xs)) => (f ρ).bind fun d => if xs.length < line then .ok (.next (ρ.set i (.own (.list (xs ++ [d]))))) else .bad
      | _ => .bad) := by
  have hs : starEach [e] X.env = (false, eval e X.env) :: starEach [] X.env := star_cons ns _ _
  have hfew : ((backTo cp (starEach [e] X.env)).all (fun x => !x.1) && (backToKw cp (keywordEach [] X.env)).all (fun x => x.1.isSome)
      && decide ([e].length + ([] : List Keyword).length + (if ([] : List Keyword).isEmpty then 0 else 1) < 30)) = true := by rw [hs]; rfl
  refine PS.imp (ps_expr (pe_bm PySem.F.plainAttrs_list PySem.F.slot_list_append PySem.F.type_list_append (mt_append : MtM X "list.append" rAppend) (pe_var hN hv hd hcd) (pa_cons h pa_nil hs) hbase hfew hline hs rfl) rfl) fun Q σ H ⟨F0, H0, F, ρ, r, q⟩ => ?_
  dsimp only at q
  split at q
  · rename_i xs e2
    obtain ⟨a, es, fa, n, vs, h1, h2⟩ := r.slot i _ e2
    refine ⟨_, es, .inl ⟨rfl, vs, .inl (.inl h1)⟩, F0, H0, F, ρ, r, PostS.seqE r q fun d v F1 H1 g z q1 => ?_⟩
    split at q1
    · rename_i hz
      have z : DV X.K F1 v d := by unfold Res at z; rw [if_pos rfl] at z; exact z
      exact ⟨a, vs, v, rfl, rfl, g.h _ _ h1, by rw [h2.length, ← line_eq]; exact hz, q1 σ F1 _ rfl ((r.grow g).app e2 es (g.h _ _ h1) z)⟩
    · exact q1.elim
  · exact q.elim
theorem st_frz {st : Stmt} {i : Nat} {f : Rho → M Fl} (h : PS X st (TS' X W f)) : PS X st (TS' X W fun ρ => onNext (match ρ[i]? with
      | some s => .ok (.next (ρ.set i (frzS s)))
      | none => .bad) f) := by
  refine PS.imp h fun Q σ H ⟨F0, H0, F, ρ, r, q⟩ => ?_
  have q : PostS X W F0 H0 σ.length (onNext (match ρ[i]? with
      | some s => .ok (.next (ρ.set i (frzS s)))
      | none => .bad) f) Q := q
  cases e : ρ[i]? with
  | none => rw [e] at q; exact q.elim
  | some s =>
    rw [e] at q
    have q : PostS X W F0 H0 σ.length (f (ρ.set i (frzS s))) Q := q
    have same : frzS s = s → ρ.set i (frzS s) = ρ := fun w => by
      obtain ⟨hl, e2⟩ := List.getElem?_eq_some_iff.mp e
      rw [w, ← e2, List.set_getElem_self]
    cases s with
    | own d =>
      cases d with
      | list xs => obtain ⟨F1, r1⟩ := r.frz e; exact ⟨F0, H0, F1, _, r1, q⟩
      | _ => rw [same rfl] at q; exact ⟨F0, H0, F, ρ, r, q⟩
    | _ => rw [same rfl] at q; exact ⟨F0, H0, F, ρ, r, q⟩
/-! loops -/
theorem st_for {iter tg : Expr} {body : List Stmt} {tg' : Tg} {fi : Rho → M (List D)} {fb : Rho → M Fl} (hp : PassesOwn (model X.prog X.w) X.A X.env X.xe) (hc : X.calm = true) (hi : PI X tg iter (TI' X W false fi)) (hg : PG X tg (gT X.K tg')) (hb : PSs X body (TS' X W fb))
    (hs : ∀ x, foldedSetIterable iter X.env x = pure x) : PS X (.For tg iter body [] pos) (TS' X W fun ρ => (fi ρ).bind fun xs => forRun tg' fb xs ρ) := by
  refine PS.imp (ps_for hp hc hi hg hb hs) fun Q σ H ⟨F0, H0, F, ρ, r, q⟩ => ⟨F0, H0, F, ρ, r, PostS.seqI r q fun xs J F1 H1 g y q1 => ?_⟩
  refine ⟨fun i m σ' H' => m = xs.length - i ∧ i ≤ xs.length ∧ σ'.length = σ.length ∧ ∃ F2 ρ', Sub F1 F2 ∧ Rel X.K F0 H0 F2 ρ' σ' H' ∧ PostS X W F0 H0 σ.length (forRun tg' fb (xs.drop i) ρ') Q,
    ⟨xs.length, by simp, Nat.zero_le _, rfl, F1, ρ, Sub.refl _, r.grow g, by rw [List.drop_zero]; exact q1⟩, ?_⟩
  rintro i m σ' H' ⟨rfl, hi', hl', F2, ρ', s2, r2, q2⟩
  have bot : Sub (sel false H1) H' := fun a o e => by cases e
  by_cases hlt : i < xs.length
  · refine .inr ?_
    obtain ⟨x, hx⟩ : ∃ x, xs[i]? = some x := ⟨_, List.getElem?_eq_getElem hlt⟩
    obtain ⟨go, yld⟩ := y.go i x F2 H' hx s2 bot r2.sub
    refine ⟨go, fun σ'' H'' => xs.length - (i + 1) = xs.length - (i + 1) ∧ i + 1 ≤ xs.length ∧ σ''.length = σ.length ∧ ∃ F2 ρ', Sub F1 F2 ∧ Rel X.K F0 H0 F2 ρ' σ'' H'' ∧ PostS X W F0 H0 σ.length (forRun tg' fb (xs.drop (i + 1)) ρ') Q, fun σ'' H'' z => ⟨_, by omega, z⟩, fun v H'' hy => ?_⟩
    obtain ⟨F3, g3, dv⟩ := yld v H'' hy
    have hdrop : xs.drop i = x :: xs.drop (i + 1) := by
      rw [List.drop_eq_getElem_cons hlt]
      rw [List.getElem?_eq_getElem hlt] at hx
      cases hx; rfl
    rw [hdrop] at q2
    have q2 : PostS X W F0 H0 σ.length ((M.ofO (bindT tg' x ρ')).bind fun r1 => (fb r1).bind fun f => match f with
      | .next r2 => forRun tg' fb (xs.drop (i + 1)) r2
      | .cont r2 => forRun tg' fb (xs.drop (i + 1)) r2
      | .brk r2 => .ok (.next r2)
      | .ret d => .ok (.ret d)) Q := q2
    cases e1 : bindT tg' x ρ' with
    | none => rw [e1] at q2; exact (show False from q2).elim
    | some ρ1 =>
      rw [e1] at q2
      have q2 : PostS X W F0 H0 σ.length ((fb ρ1).bind fun f => match f with
        | .next r2 => forRun tg' fb (xs.drop (i + 1)) r2
        | .cont r2 => forRun tg' fb (xs.drop (i + 1)) r2
        | .brk r2 => .ok (.next r2)
        | .ret d => .ok (.ret d)) Q := q2
      refine gT_mono ?_ (gT_ok (P := fun τ => τ.length = σ.length) e1 dv (r2.grow g3) hl' fun τ _ _ hp _ => by rw [List.length_set]; exact hp)
      rintro σ2 H2 ⟨rfl, r3, hl3⟩
      refine ⟨F3, H0, F3, ρ1, r3.base, ?_⟩
      rw [hl3]
      cases e2 : fb ρ1 with
      | bad => rw [e2] at q2; exact q2
      | ex c fs => rw [e2] at q2; exact fun σ' F' H' cls dd hl g z => q2 σ' F' H' cls dd hl (r3.gback g) z
      | ok fl =>
        rw [e2] at q2
        cases fl with
        | next ρ2 => exact fun σ' F' H' hl r4 => ⟨rfl, hlt, hl, F', ρ2, (s2.trans g3.f).trans r4.f0, r3.back r4, q2⟩
        | cont ρ2 => exact fun σ' F' H' hl r4 => ⟨rfl, hlt, hl, F', ρ2, (s2.trans g3.f).trans r4.f0, r3.back r4, q2⟩
        | brk ρ2 => exact fun σ' F' H' hl r4 => q2 σ' F' H' hl (r3.back r4)
        | ret d => exact fun v F' H' g z => q2 v F' H' (r3.gback g) z
  · have e : i = xs.length := by omega
    subst e
    rw [List.drop_length] at q2
    exact .inl ⟨y.stop F2 H' s2 bot r2.sub, q2 σ' F2 H' hl' r2⟩
theorem st_whl {c : Expr} {body : List Stmt} {fc : Rho → M Bool} {fb : Rho → M Fl} {N : Nat} (hp : PassesOwn (model X.prog X.w) X.A X.env X.xe) (hc : PT X c (TT' X W fc)) (hb : PSs X body (TS' X W fb)) :
    PS X (.While c body [] pos) (TS' X W fun ρ => whlRun fc fb N ρ) := by
  refine PS.imp (ps_while hp hc hb) fun Q σ H ⟨F0, H0, F, ρ, r, q⟩ => ?_
  refine ⟨fun m σ' H' => σ'.length = σ.length ∧ ∃ F2 ρ', Rel X.K F0 H0 F2 ρ' σ' H' ∧ PostS X W F0 H0 σ.length (whlRun fc fb m ρ') Q, ⟨N, rfl, F, ρ, r, q⟩, ?_⟩
  rintro m σ' H' ⟨hl', F2, ρ', r2, q2⟩
  rw [← hl'] at q2
  cases m with
  | zero => exact q2.elim
  | succ m =>
    refine ⟨F0, H0, F2, ρ', r2, PostS.seqB r2 q2 fun b F3 H3 g q3 => ?_⟩
    cases b with
    | false => rw [if_neg Bool.false_ne_true] at q3 ⊢; exact q3 σ' F3 H3 rfl (r2.grow g)
    | true =>
      rw [if_pos rfl] at q3 ⊢
      refine ⟨fun σ'' H'' => σ''.length = σ.length ∧ ∃ F2 ρ', Rel X.K F0 H0 F2 ρ' σ'' H'' ∧ PostS X W F0 H0 σ.length (whlRun fc fb m ρ') Q, fun σ'' H'' z => ⟨m, Nat.lt_succ_self _, z⟩, F0, H0, F3, ρ', r2.grow g, ?_⟩
      cases e2 : fb ρ' with
      | bad => rw [e2] at q3; exact q3
      | ex c fs => rw [e2] at q3; exact q3
      | ok fl =>
        rw [e2] at q3
        cases fl with
        | next ρ2 => exact fun σ'' F' H' hl r4 => ⟨hl.trans hl', F', ρ2, r4, hl' ▸ q3⟩
        | cont ρ2 => exact fun σ'' F' H' hl r4 => ⟨hl.trans hl', F', ρ2, r4, hl' ▸ q3⟩
        | brk ρ2 => exact q3
        | ret d => exact q3
/-! raise -/
/-- a class of errors that may be made: its name, its fields -/
structure RaG (X : Cx) (j : Nat) (c : Str) (ns : List Str) : Prop where
  ex : ∃ C, X.mg c = some (.ref C) ∧ (ns = [] → ∀ px pos : Pos, Gl X c → (c == ("__debug__" : Str)) = false → PMk X (.Call (.Name c px) [] [] pos) fun _ H Q => Q (.ref C) none H) ∧
    (ns ≠ [] → ∀ (es : List Expr) (px pos : Pos) (t : TA), Gl X c → Room j X.A → PA X es t → (∀ e ∈ es, ∀ x p, e ≠ .Starred x p) → (c == ("__debug__" : Str)) = false → es.length = ns.length →
      PMk X (.Call (.Name c px) es [] pos) fun σ H Q => t σ H fun vs H1 => vs.length = ns.length ∧ ∀ d, H1 d = none → Q (.ref C) (some d) (upd H1 d (.xd (ns.zip vs).reverse)))
theorem RaG.mono {X : Cx} {j k : Nat} {c : Str} {ns : List Str} (h : RaG X j c ns) (hjk : j ≤ k) : RaG X k c ns := by
  obtain ⟨C, gC, a, b⟩ := h.ex
  exact ⟨C, gC, a, fun hn es px pos t hg hr => b hn es px pos t hg (hr.mono hjk)⟩
theorem zip_map {α β : Type} : ∀ {ns : List α} {vs : List β}, vs.length = ns.length → (ns.zip vs).map (·.1) = ns ∧ (ns.zip vs).map (·.2) = vs
  | [], [], _ => ⟨rfl, rfl⟩
  | n :: ns, v :: vs, h => by
    obtain ⟨h1, h2⟩ := zip_map (ns := ns) (vs := vs) (by simpa using h)
    simp [h1, h2]
theorem st_raise0 {c : Str} {px cp : Pos} {j : Nat} (hc : X.calm = true) (tk : Takes X W) (ra : RaG X j c []) (hg : Gl X c) (hd : (c == ("__debug__" : Str)) = false) :
    PS X (.Raise (some (.Call (.Name c px) [] [] cp)) none pos) (TS' X W fun ρ => .ex c []) := by
  obtain ⟨C, gC, mk0, mk⟩ := ra.ex
  exact PS.imp (ps_raise hc tk (mk0 rfl px cp hg hd)) fun Q σ H ⟨F0, H0, F, ρ, r, q⟩ => q σ F H _ _ rfl r.grow0 ⟨C, gC, rfl, .inl ⟨rfl, rfl⟩⟩
theorem st_raise {c : Str} {px cp : Pos} {es : List Expr} {ks : List Nat} {fs : Rho → M (List D)} {ns : List Str} {j : Nat} (hc : X.calm = true) (tk : Takes X W) (ra : RaG X j c ns) (hg : Gl X c) (hr : Room j X.A) (h : PA X es (TA' X W ks fs)) (hk : ∀ k ∈ ks, k = 0 ∨ k = 1)
    (nst : ∀ e ∈ es, ∀ x p, e ≠ .Starred x p) (hd : (c == ("__debug__" : Str)) = false) (hl : es.length = ns.length) (hn : ns ≠ []) :
    PS X (.Raise (some (.Call (.Name c px) es [] cp)) none pos) (TS' X W fun ρ => (fs ρ).bind fun ds => if ds.length = ns.length then .ex c (ns.zip ds).reverse else .bad) := by
  obtain ⟨C, gC, mk0, mk⟩ := ra.ex
  refine PS.imp (ps_raise hc tk (mk hn es px cp _ hg hr h nst hd hl)) fun Q σ H ⟨F0, H0, F, ρ, r, q⟩ => ⟨F0, H0, F, ρ, r, PostS.seqL r q fun ds vs F1 H1 g z q1 => ?_⟩
  obtain ⟨F2, g2, s2, t⟩ := (z.shs hk).share g
  split at q1
  case isFalse => exact q1.elim
  rename_i hlen
  have hv : vs.length = ns.length := by rw [t.length]; exact hlen
  refine ⟨hv, fun d hd => ?_⟩
  have g0 := r.grow0.trans g2
  obtain ⟨a1, a2⟩ := zip_map hv
  obtain ⟨b1, b2⟩ := zip_map (ns := ns) hlen
  refine q1 σ F2 _ _ _ rfl (g0.trans (Grow.beside g0.fh hd)) ⟨C, gC, rfl, .inr ⟨d, (ns.zip vs).reverse, fun e => ?_, rfl, g0.fh.none hd, upd_same, ?_, ?_⟩⟩
  · have : ns.zip ds = [] := by simpa using e
    rw [← b1, this] at hn
    exact hn rfl
  · rw [List.map_reverse, List.map_reverse, a1, b1]
  · rw [List.map_reverse, List.map_reverse, a2, b2]
    exact t.reverse
end
end DL

/-! DIsl: a test that looks at a slot's list; a new list of lists that is looked at, then changed. -/
namespace DL
open PySem PySem.Spec PyProof.Rows L2
theorem bind_assoc {α β γ : Type} (m : M α) (f : α → M β) (g : β → M γ) : (m.bind f).bind g = m.bind fun a => (f a).bind g := by cases m <;> rfl
theorem onNext_bind {α : Type} (m : M α) (f : α → M Fl) (g : Rho → M Fl) : onNext (m.bind f) g = m.bind fun a => onNext (f a) g := by cases m <;> rfl
section
variable {X : Cx} {W : WX} {pos : Pos}
theorem st_ifT {i : Nat} {c : Expr} {a b : List Stmt} {fc : Rho → M Bool} {fa fb : Rho → M Fl} (hc : PT X c (TT' X W fc)) (ha : PSs X a (TS' X W fa)) (hb : PSs X b (TS' X W fb)) :
    PS X (.If c a b pos) (TS' X W fun ρ => match ρ[i]? with
      | some s => (fc (ρ.set i (frzS s))).bind fun k => if k = true then fa ρ else fb ρ
      | none => .bad) := by
  refine PS.imp (ps_if hc ha hb) fun Q σ H ⟨F0, H0, F, ρ, r, q⟩ => ?_
  dsimp only at q
  cases e : ρ[i]? with
  | none => rw [e] at q; exact q.elim
  | some s =>
    rw [e] at q
    have q : PostS X W F0 H0 σ.length ((fc (ρ.set i (frzS s))).bind fun k => if k = true then fa ρ else fb ρ) Q := q
    obtain ⟨F1, r1⟩ : ∃ F1, Rel X.K F0 H0 F1 (ρ.set i (frzS s)) σ H := by
      have same : frzS s = s → ρ.set i (frzS s) = ρ := fun w => by
        obtain ⟨hl, e2⟩ := List.getElem?_eq_some_iff.mp e
        rw [w, ← e2, List.set_getElem_self]
      cases s with
      | own d =>
        cases d with
        | list xs => exact r.frz e
        | _ => rw [same rfl]; exact ⟨F, r⟩
      | _ => rw [same rfl]; exact ⟨F, r⟩
    refine ⟨F0, H0, F1, _, r1, PostS.seqB r1 q fun k F2 H2 g q1 => ?_⟩
    have r2 : Rel X.K F0 H0 F ρ σ H2 := r.grow ⟨Sub.refl _, g.h, r.sub.trans g.h, fun _ z => .inl z, fun _ _ _ z => z⟩
    cases k with
    | true => rw [if_pos rfl] at q1 ⊢; exact ⟨F0, H0, F, ρ, r2, q1⟩
    | false => rw [if_neg Bool.false_ne_true] at q1 ⊢; exact ⟨F0, H0, F, ρ, r2, q1⟩
/-- x = f(..); if not g(x, e): return False; x.append([]); x[0].append(0) -/
theorem ss_isle {i : Nat} {x f g : Str} {a0 e2 : Expr} {as : List Expr} {p1 pf cp pa pg p2 cg pn pr pif p3 ap3 pl3 c3 pe3 p4 ps4 ap4 c4 pe4 pi0 pi1 pb : Pos} {n0 n1 nb} {ks : List Nat} {fs : Rho → M (List D)} {fe : Rho → M D} {mf mg : List D → M D} {msf : List Pm} {j : Nat}
    (nl : nlK X.K = true) (hN : X.N.Nodup) (hi : X.N[i]? = some x) (hx : Loc X.env.scope x) (hfn : X.fn x = true ∨ X.env.scope.names.lookup x = some .local) (hv : Vis X.env.scope x) (hd : (x == ("__debug__" : Str)) = false) (hcd : (x == ("__classdict__" : Str)) = false)
    (Ff : FnG X j f msf mf) (Fg : FnG X j g [.sh, .sh] mg) (hr : Room j X.A) (tk : Takes X W) (glf : Gl X f) (glg : Gl X g) (dbf : (f == ("__debug__" : Str)) = false) (dbg : (g == ("__debug__" : Str)) = false)
    (h : PA X (a0 :: as) (TA' X W ks fs)) (ns : ∀ e' ∈ a0 :: as, ∀ x p, e' ≠ .Starred x p) (hk : fitK msf ks = true) (he : PE X e2 (TE' X W 0 fe)) (ns2 : ∀ x p, e2 ≠ .Starred x p) (hl3 : (ap3.endLine == c3.line) = true) (hl4 : (ap4.endLine == c4.line) = true)
    {rest : List Stmt} {gr : Rho → M Fl} (hrest : PSs X rest (TS' X W gr)) :
    PSs X (.Assign [.Name x p1] (.Call (.Name f pf) (a0 :: as) [] cp) pa :: .If (.UnaryOp .Not (.Call (.Name g pg) [.Name x p2, e2] [] cg) pn) [.Return (some (.Constant (.bool false) nb pb)) pr] [] pif ::
        .Expr (.Call (.Attribute (.Name x p3) "append" ap3) [.List [] pl3] [] c3) pe3 :: .Expr (.Call (.Attribute (.Subscript (.Name x p4) (.Constant (.int 0) n0 pi0) ps4) "append" ap4) [.Constant (.int 0) n1 pi1] [] c4) pe4 :: rest)
      (TS' X W fun ρ => onNext ((fs ρ).bind fun ds => if noLs ds = true ∧ i < ρ.length then (mf ds).bind fun d => match d with
      | .list xs => if (xs.all isLs) = true ∧ xs.length + 1 < line then (fe (ρ.set i .un)).bind fun u => (evB (mg [.list xs, u])).bind fun k => if k = true then .ok (.next (ρ.set i .un)) else .ok (.ret (.bool false)) else .bad
      | _ => .bad
    else .bad) gr) := by
  obtain ⟨af, fdf, psf, FF, gmf, kpf, bdf⟩ := Ff.ex
  obtain ⟨ag, fdg, psg, FG, gmg, kpg, bdg⟩ := Fg.ex
  have callF := pe_callS (p := pf) (pos := cp) FF hr glf gmf kpf bdf (fun σ => passAt tk σ) h dbf (star_cons (ns a0 List.mem_cons_self) as _) (star_any fun e' he' => ns e' (List.mem_cons_of_mem _ he'))
  have vx : ∀ {p : Pos}, PE X (.Name x p) (tVar i) := pe_var hi hv hd hcd
  have nN : ∀ {p : Pos} (y : Expr) (q : Pos), Expr.Name x p ≠ .Starred y q := fun _ _ z => by cases z
  have callG := pe_callS (p := pg) (pos := cg) FG hr glg gmg kpg bdg (fun σ => passAt tk σ) (pa_cons (vx (p := p2)) (pa_cons he pa_nil (star_cons ns2 _ _)) (star_cons nN _ _)) dbg (star_cons nN _ _) (star_any fun e' he' => by rcases List.mem_singleton.mp he' with rfl; exact ns2)
  refine PSs.imp (pss_cons (ps_set hN hi hx callF rfl hfn) (pss_cons (ps_if (pt_not (pt_val callG (fun _ => rfl))) (pss_one (ps_ret pe_bl)) pss_nil)
    (pss_cons (ps_expr (pe_bm PySem.F.plainAttrs_list PySem.F.slot_list_append PySem.F.type_list_append (mt_append : MtM X "list.append" rAppend) vx (pa_cons (pe_lst pa_nil) pa_nil) rfl rfl hl3 rfl rfl) rfl)
    (pss_cons (ps_expr (pe_bm PySem.F.plainAttrs_list PySem.F.slot_list_append PySem.F.type_list_append (mt_append : MtM X "list.append" rAppend) (pe_ix ix_list vx pe_int (fun _ _ => rfl)) (pa_cons pe_int pa_nil) rfl rfl hl4 rfl rfl) rfl) hrest)))) fun Q σ H ⟨F0, H0, F, ρ, r, q⟩ => ?_
  dsimp only at q
  rw [onNext_bind] at q
  refine ⟨F0, H0, F, ρ, r, PostS.seqL r q fun ds vs F1 H1 g1 r1 q1 => ?_⟩
  obtain ⟨F2, g2, s2, t⟩ := (ArgQ.of r1 hk).share g1
  split at q1
  case isFalse => exact q1.elim
  rename_i hn
  obtain ⟨hn, hil⟩ := hn
  rw [r.len] at hil
  rw [onNext_bind] at q1
  refine ⟨tupF F2, ds, fun a o h => g2.fh _ _ (tupF_some h), t.cut hn, ?_⟩
  cases e1 : mf ds with
  | bad => rw [e1] at q1; exact q1
  | ex c fs' =>
    rw [e1] at q1
    refine fun F' H' cls dd g hx => ?_
    obtain ⟨gu, su⟩ := g.uni g2.fh
    exact q1 σ _ _ cls dd rfl (r.grow0.trans (g2.trans gu)) (hx.uni g g2.fh)
  | ok d =>
    rw [e1] at q1
    refine fun v F' H' g hd => ?_
    obtain ⟨gu, su⟩ := g.uni g2.fh
    cases d with
    | list xs =>
      have q1 : PostS X W F0 H0 σ.length (onNext (if (xs.all isLs) = true ∧ xs.length + 1 < line then (fe (ρ.set i .un)).bind fun u => (evB (mg [.list xs, u])).bind fun k => if k = true then .ok (.next (ρ.set i .un)) else .ok (.ret (.bool false)) else .bad) gr) Q := q1
      split at q1
      case isFalse => exact q1.elim
      rename_i hx
      rw [onNext_bind] at q1
      obtain ⟨a, ws, rfl, hs, hw⟩ := hd.lst_inv
      obtain ⟨n1, n2, n3, n4⟩ := g.newL nl g2.fh hs
      have R2 := (r.grow (g2.trans gu)).unset i (some (.ref a))
      have ga : (σ.set i (some (V.ref a)))[i]? = some (some (.ref a)) := List.getElem?_set_self hil
      have hlen : (σ.set i (some (V.ref a))).length = σ.length := List.length_set ..
      rw [← hlen] at q1
      refine ⟨.ref a, ga, F0, H0, _, _, R2, PostS.seqE R2 q1 fun u vu F3 H3 g3 z3 q3 => ?_⟩
      have z3 : DV X.K F3 vu u := by unfold Res at z3; rw [if_pos rfl] at z3; exact z3
      refine ⟨F3, [.list xs, u], g3.fh, .sh (hd.mono (su.trans g3.f)) (.sh z3 .nil), ?_⟩
      rw [onNext_bind] at q3
      cases e3 : mg [.list xs, u] with
      | bad => rw [e3] at q3; exact q3
      | ex c fs' => rw [e3] at q3; exact fun F' H' cls dd g hx => q3 _ _ _ cls dd rfl (R2.grow0.trans (g3.trans g)) hx
      | ok b =>
        rw [e3] at q3
        cases b with
        | bool k =>
          have q3 : PostS X W F0 H0 (σ.set i (some (V.ref a))).length (onNext (if k = true then .ok (.next (ρ.set i .un)) else .ok (.ret (.bool false))) gr) Q := q3
          refine fun v F4 H4 g4 hb => ?_
          cases hb.bool_inv
          refine ⟨k, rfl, ?_⟩
          cases k with
          | false => exact q3 _ F4 H4 (R2.grow0.trans (g3.trans g4)) (.bool false)
          | true =>
            have q3 : PostS X W F0 H0 (σ.set i (some (V.ref a))).length (gr (ρ.set i .un)) Q := q3
            have hH : Sub H1 H4 := (g.h.trans g3.h).trans g4.h
            have h4a : H4 a = some (.lst ws) := g4.h _ _ (g3.h _ _ n3)
            refine ⟨.ref a, ga, .inl ⟨rfl, ws, .inl (.inl h4a)⟩, Nat.zero_le _, fun p hp => ?_⟩
            have hpa : a ≠ p := fun z => by rw [z, hp] at h4a; cases h4a
            refine ⟨a, ws, .ref p, rfl, rfl, by rw [upd_ne hpa]; exact h4a, by rw [hw.length, ← line_eq]; exact Nat.lt_of_succ_lt hx.2, ?_⟩
            have s1 : Sub H1 (upd (upd H4 p (.lst [])) a (.lst (ws ++ [.ref p]))) := fun b o z => by
              rw [upd_ne (fun e => by rw [e, n2] at z; cases z), upd_ne (fun e => by rw [e] at z; rw [hH _ _ z] at hp; cases hp)]
              exact hH _ _ z
            obtain ⟨v0, b, us, e0, hv0, hb0, n0, lz⟩ : ∃ v0 b us, (ws ++ [V.ref p])[0]? = some v0 ∧ v0 = .ref b ∧ (upd (upd H4 p (.lst [])) a (.lst (ws ++ [.ref p]))) b = some (.lst us) ∧ H1 b = none ∧ us.length < line := by
              cases ws with
              | nil => exact ⟨_, p, [], rfl, rfl, by rw [upd_ne (Ne.symm hpa), upd_same], (by
                cases z : H1 p with
                | none => rfl
                | some o => rw [hH _ _ z] at hp; cases hp), (by decide : (0 : Nat) < line)⟩
              | cons w ws =>
                cases xs with
                | nil => have := hw.unnil; cases this
                | cons y ys =>
                  obtain ⟨w', r', ew, hw1, _⟩ := hw.uncons
                  cases ew
                  have hy : isLs y = true := by
                    have := hx.1
                    rw [List.all_cons, Bool.and_eq_true] at this
                    exact this.1
                  cases y with
                  | list zs =>
                    obtain ⟨b, us, rfl, hs2, hw2⟩ := hw1.lst_inv
                    obtain ⟨m1, m2, m3, m4⟩ := g.newL nl g2.fh hs2
                    by_cases hba : b = a
                    · exact ⟨_, b, _, rfl, rfl, by rw [hba, upd_same], m2, by subst hba; rw [List.length_append, hw.length]; exact hx.2⟩
                    · exact ⟨_, b, us, rfl, rfl, by rw [upd_ne hba, upd_ne (fun e => by have := g4.h _ _ (g3.h _ _ m3); rw [e, hp] at this; cases this)]; exact g4.h _ _ (g3.h _ _ m3), m2, by rw [hw2.length]; exact of_decide_eq_true hy⟩
                  | _ => cases hy
            subst hv0
            refine ⟨.ref a, ga, a, ws ++ [.ref p], 0, .ref b, rfl, rfl, .inl (.inl upd_same), ?_, .inl ⟨rfl, us, .inl (.inl hb0)⟩, b, us, .int 0, rfl, rfl, hb0, ?_, ?_⟩
            · exact atI_nat (j := 0) e0
            · rw [← line_eq]; exact lz
            · refine ⟨F0, H0, F2, ρ.set i .un, ((r.grow g2).grow ⟨Sub.refl _, fun c o z => ?_, fun c o z => ?_, fun _ z => .inl z, fun _ _ _ z => z⟩).unset i _, q3⟩
              · rw [upd_ne (fun e => by rw [e, n0] at z; cases z)]; exact s1 _ _ z
              · have z := g2.fh _ _ z
                rw [upd_ne (fun e => by rw [e, n0] at z; cases z)]; exact s1 _ _ z
        | _ => exact q3.elim
    | _ => exact q1.elim
end
end DL

/-! DDik: a dict with ints as keys in a slot of its own. -/
namespace DL
open PySem PySem.Spec PyProof.Rows L2
section
variable {K : Fg} {F0 H0 F H F' H' : Hp} {ρ ρ1 : Rho} {σ : St} {v : V} {d : D} {i : Nat} {a : Addr}
theorem kill_get {j : Nat} {s : Sl} (e : (killD ρ)[j]? = some s) : ∃ s0, ρ[j]? = some s0 ∧ s = unD s0 := by
  unfold killD at e
  rw [List.getElem?_map] at e
  cases h : ρ[j]? with
  | none => rw [h] at e; cases e
  | some s0 => rw [h] at e; cases e; exact ⟨s0, rfl, rfl⟩
theorem Rel.kill (r : Rel K F0 H0 F ρ σ H) : Rel K F0 H0 F (killD ρ) σ H := by
  refine ⟨by unfold killD; rw [List.length_map]; exact r.len, r.sub, r.f0, r.same, r.new, r.fz, fun j s e => ?_, fun j k d' b h1 h2 hjk h3 => ?_⟩
  · obtain ⟨s0, e0, rfl⟩ := kill_get e
    have z := r.slot j s0 e0
    cases s0 with
    | dic kvs => trivial
    | _ => exact z
  · obtain ⟨s0, e0, es⟩ := kill_get h1
    have e0' : ρ[j]? = some (.own d') := by cases s0 <;> cases es <;> exact e0
    obtain ⟨z1, z2⟩ := r.apart j k d' b e0' h2 hjk h3
    refine ⟨fun e q => ?_, fun e q => ?_⟩
    · obtain ⟨s1, e1, es1⟩ := kill_get q
      have : ρ[k]? = some (.own e) := by cases s1 <;> cases es1 <;> exact e1
      exact z1 e this
    · obtain ⟨s1, e1, es1⟩ := kill_get q
      have : ρ[k]? = some (.bor e) := by cases s1 <;> cases es1 <;> exact e1
      exact z2 e this
theorem kill_no (j : Nat) (kvs : List (Int × D)) : (killD ρ)[j]? ≠ some (.dic kvs) := fun e => by
  obtain ⟨s0, _, es⟩ := kill_get e
  cases s0 <;> cases es
/-- a slot's dict -/
theorem Rel.dic {kvs : List (Int × D)} {vs : List V} (r : Rel K F0 H0 F ρ σ H) (nd : ∀ (j : Nat) (kvs : List (Int × D)), ρ[j]? ≠ some (Sl.dic kvs)) (fa : F a = none) (na : H0 a = none) (hH : ∀ b, b ≠ a → H' b = H b) (hl : ∀ vs, H a ≠ some (.lst vs)) (h' : H' a = some (.dK (dkV kvs vs))) (t : DVs K F vs (kvs.map (·.2))) :
    Rel K F0 H0 F (ρ.set i (.dic kvs)) (σ.set i (some (.ref a))) H' := by
  refine ⟨by rw [List.length_set, List.length_set]; exact r.len, fun b o q => ?_, r.f0, fun b o q => ?_, r.new, r.fz, fun j s e => ?_, fun j k d' b h1 h2 hjk h3 => ?_⟩
  · rw [hH b (fun z => by rw [z, fa] at q; cases q)]; exact r.sub b o q
  · rw [hH b (fun z => by rw [z, na] at q; cases q)]; exact r.same b o q
  · by_cases hj : i = j
    · subst hj
      by_cases hl : i < ρ.length
      · rw [List.getElem?_set_self hl] at e
        cases e
        exact ⟨a, vs, by rw [List.getElem?_set_self (by rw [← r.len]; exact hl)], fa, na, h', t⟩
      · rw [List.getElem?_eq_none (by simpa using hl)] at e; cases e
    · rw [List.getElem?_set_ne hj] at e
      rw [List.getElem?_set_ne hj]
      have z := r.slot j s e
      cases s with
      | un => trivial
      | sh d => exact z
      | dic kvs => exact absurd e (nd j kvs)
      | own d =>
        obtain ⟨b, e2, f2, n2, rt⟩ := z
        cases d with
        | list ds =>
          obtain ⟨us, h6, h7⟩ := rt
          have hb : b ≠ a := fun z => hl us (z ▸ h6)
          exact ⟨b, e2, f2, n2, us, by rw [hH b hb]; exact h6, h7⟩
        | _ => exact rt.elim
      | bor d =>
        obtain ⟨u, e2, bv⟩ := z
        refine ⟨u, e2, ?_⟩
        rcases bv with bv | ⟨b, e3, f3, rt⟩
        · exact .inl bv
        · cases d with
          | list ds =>
            obtain ⟨us, h6, h7⟩ := rt
            have hb : b ≠ a := fun z => hl us (z ▸ h6)
            exact .inr ⟨b, e3, f3, us, by rw [hH b hb]; exact h6, h7⟩
          | _ => exact rt.elim
  · have hj : i ≠ j := fun z => by
      subst z
      by_cases hl : i < ρ.length
      · rw [List.getElem?_set_self hl] at h1; cases h1
      · rw [List.getElem?_eq_none (by simpa using hl)] at h1; cases h1
    rw [List.getElem?_set_ne hj] at h1 h2
    by_cases hk : i = k
    · subst hk
      by_cases hl : i < ρ.length
      · rw [List.getElem?_set_self hl]
        exact ⟨fun e z => (by cases z), fun e z => (by cases z)⟩
      · rw [List.getElem?_eq_none (by simpa using hl)]
        exact ⟨fun e z => (by cases z), fun e z => (by cases z)⟩
    · rw [List.getElem?_set_ne hk] at h3 ⊢
      exact r.apart j k d' b h1 h2 hjk h3
theorem dk_get {n : Int} : ∀ {kvs : List (Int × D)} {vs : List V}, DVs K F vs (kvs.map (·.2)) → (∀ d, dGet kvs n = some d → ∃ v, valV (dkV kvs vs) (Sum.inl n : Key) = some v ∧ DV K F v d) ∧ (dGet kvs n = none → valV (dkV kvs vs) (Sum.inl n : Key) = none)
  | [], vs, h => by rw [h.unnil]; exact ⟨fun d e => (by cases e), fun _ => rfl⟩
  | (m, d) :: kvs, vs, h => by
    obtain ⟨v, us, rfl, h1, h2⟩ := h.uncons
    obtain ⟨i1, i2⟩ := dk_get (n := n) h2
    have ed : dkV ((m, d) :: kvs) (v :: us) = (Sum.inl m, v) :: dkV kvs us := rfl
    rw [ed]
    by_cases e : m = n
    · subst e
      have e1 : dGet ((m, d) :: kvs) m = some d := by unfold dGet; rw [List.find?_cons_of_pos (by simp)]; rfl
      have e2 : valV ((Sum.inl m, v) :: dkV kvs us) (Sum.inl m : Key) = some v := valV_pos rfl
      rw [e1, e2]
      exact ⟨fun d' z => by cases z; exact ⟨v, rfl, h1⟩, fun z => by cases z⟩
    · have e1 : dGet ((m, d) :: kvs) n = dGet kvs n := by unfold dGet; rw [List.find?_cons_of_neg (by simpa using e)]
      have e2 : valV ((Sum.inl m, v) :: dkV kvs us) (Sum.inl n : Key) = valV (dkV kvs us) (Sum.inl n : Key) := valV_neg (fun z => e (by injection z))
      rw [e1, e2]
      exact ⟨i1, i2⟩
theorem dk_any {n : Int} : ∀ {kvs : List (Int × D)} {vs : List V}, vs.length = kvs.length → ((dkV kvs vs).any fun kv => decide (kv.1 = (Sum.inl n : Key))) = kvs.any fun p => decide (p.1 = n)
  | [], [], _ => rfl
  | (m, d) :: kvs, v :: vs, h => by
    have ed : dkV ((m, d) :: kvs) (v :: vs) = (Sum.inl m, v) :: dkV kvs vs := rfl
    rw [ed, List.any_cons, List.any_cons, dk_any (by simpa using h)]
    congr 1
    by_cases e : m = n
    · subst e; simp
    · simp [e]
theorem dk_map {n : Int} {w : V} {x : D} (hw : DV K F w x) : ∀ {kvs : List (Int × D)} {vs : List V}, DVs K F vs (kvs.map (·.2)) →
    ∃ us, (dkV kvs vs).map (fun kv => if kv.1 = (Sum.inl n : Key) then (kv.1, w) else kv) = dkV (kvs.map fun p => if p.1 = n then (p.1, x) else p) us ∧ DVs K F us ((kvs.map fun p => if p.1 = n then (p.1, x) else p).map (·.2))
  | [], vs, h => ⟨[], by rw [h.unnil]; rfl, .nil⟩
  | (m, d) :: kvs, vs, h => by
    obtain ⟨v, us, rfl, h1, h2⟩ := h.uncons
    obtain ⟨ws, i1, i2⟩ := dk_map hw h2
    have ed : dkV ((m, d) :: kvs) (v :: us) = (Sum.inl m, v) :: dkV kvs us := rfl
    rw [ed, List.map_cons, i1, List.map_cons]
    by_cases e : m = n
    · subst e
      refine ⟨w :: ws, ?_, ?_⟩
      · rw [if_pos rfl, if_pos rfl]; rfl
      · rw [if_pos rfl, List.map_cons]; exact .cons hw i2
    · refine ⟨v :: ws, ?_, ?_⟩
      · rw [if_neg (fun z => e (by injection z)), if_neg e]; rfl
      · rw [if_neg e, List.map_cons]; exact .cons h1 i2
theorem dk_put {n : Int} {w : V} {x : D} (hw : DV K F w x) {kvs : List (Int × D)} {vs : List V} (h : DVs K F vs (kvs.map (·.2))) :
    ∃ us, putK (dkV kvs vs) (Sum.inl n : Key) w = dkV (dPut kvs n x) us ∧ DVs K F us ((dPut kvs n x).map (·.2)) := by
  have hl : vs.length = kvs.length := by have := h.length; rw [List.length_map] at this; exact this
  unfold putK dPut
  rw [dk_any hl]
  by_cases e : (kvs.any fun p => decide (p.1 = n)) = true
  · rw [if_pos e, if_pos e]
    exact dk_map hw h
  · rw [if_neg e, if_neg e]
    refine ⟨vs ++ [w], ?_, ?_⟩
    · unfold dkV
      rw [List.map_append, List.zip_append (by rw [List.length_map, hl]), List.map_append]
      rfl
    · rw [List.map_append]
      exact h.append (.cons hw .nil)
theorem dk_len {kvs : List (Int × D)} {vs : List V} (h : DVs K F vs (kvs.map (·.2))) : (dkV kvs vs).length = kvs.length := by
  have hl : vs.length = kvs.length := by have := h.length; rw [List.length_map] at this; exact this
  unfold dkV
  rw [List.length_map, List.length_zip, List.length_map, hl, Nat.min_self]
end
theorem dicOf_some {ρ : Rho} {i : Nat} {kvs : List (Int × D)} (h : dicOf ρ i = some kvs) : ρ[i]? = some (.dic kvs) := by
  unfold dicOf at h
  split at h
  · rename_i e; cases h; exact e
  · cases h
section
variable {X : Cx} {W : WX} {F0 H0 F H : Hp} {ρ : Rho} {σ : St} {k k1 : Nat} {Q : Ends} {pos p pos' : Pos}
theorem din_read {i : Nat} {f : Rho → M D} : ∀ σ H Q, TE' X W 0 (fun ρ => (f ρ).bind fun y => (M.ofO (dicOf ρ i)).bind fun kvs => dHas kvs y) σ H Q → tDIn (TE' X W k f) (tVar i) σ H Q := by
  refine fun σ H Q ⟨F0, H0, F, ρ, r, q⟩ => ⟨F0, H0, F, ρ, r, PostE.seq q fun y v F1 H1 g r1 q1 => ?_⟩
  cases e1 : dicOf ρ i with
  | none => rw [e1] at q1; exact (show False from q1).elim
  | some kvs =>
    rw [e1] at q1
    have q1 : PostE X W F1 H1 σ 0 (dHas kvs y) Q := q1
    cases y <;> first | exact (show False from q1).elim | skip
    rename_i n _
    have q1 : PostE X W F1 H1 σ 0 (.ok (.bool (dGet kvs n).isSome)) Q := q1
    obtain ⟨a, vs, es, fa, na, h1, t⟩ := (r.grow g).slot i _ (dicOf_some e1)
    obtain ⟨d1, d2⟩ := dk_get (n := n) t
    refine ⟨_, es, a, valV (dkV kvs vs) (Sum.inl n : Key), rfl, ?_, ?_⟩
    · rw [r1.bv.int_inv]
      exact DGet.k (k := Sum.inl n) h1
    · have : (valV (dkV kvs vs) (Sum.inl n : Key)).isSome = (dGet kvs n).isSome := by
        cases e3 : dGet kvs n with
        | none => rw [d2 e3]; rfl
        | some d => obtain ⟨w, e4, _⟩ := d1 d e3; rw [e4]; rfl
      rw [this]
      exact q1.flat g.fh (.bool _) rfl
theorem s_din {i j : Nat} {x : Str} {e : Expr} {f : Rho → M D} (hr : Room j X.A) (h : PE X e (TE' X W k f)) (hN : X.N[i]? = some x) (hv : Vis X.env.scope x) (hd : (x == ("__debug__" : Str)) = false) (hcd : (x == ("__classdict__" : Str)) = false) :
    PE X (.Compare e [.In] [.Name x p] pos) (TE' X W 0 fun ρ => (f ρ).bind fun y => (M.ofO (dicOf ρ i)).bind fun kvs => dHas kvs y) := by
  have un := hr.un
  exact PE.imp (pe_cmp (pc_din (by omega) h (pe_var hN hv hd hcd)) rfl) din_read
theorem t_din {i j : Nat} {x : Str} {e : Expr} {f : Rho → M D} (hr : Room j X.A) (h : PE X e (TE' X W k f)) (hN : X.N[i]? = some x) (hv : Vis X.env.scope x) (hd : (x == ("__debug__" : Str)) = false) (hcd : (x == ("__classdict__" : Str)) = false) :
    PT X (.Compare e [.In] [.Name x p] pos) (TT' X W fun ρ => evB ((f ρ).bind fun y => (M.ofO (dicOf ρ i)).bind fun kvs => dHas kvs y)) := by
  have un := hr.un
  exact t_of (k := 0) (pt_cmp (pc_din (by omega) h (pe_var hN hv hd hcd)) rfl) din_read
theorem s_dgt {i j : Nat} {x : Str} {e : Expr} {f : Rho → M D} (hr : Room j X.A) (h : PE X e (TE' X W k f)) (hs : NoSl e) (hN : X.N[i]? = some x) (hv : Vis X.env.scope x) (hd : (x == ("__debug__" : Str)) = false) (hcd : (x == ("__classdict__" : Str)) = false) :
    PE X (.Subscript (.Name x p) e pos) (TE' X W 0 fun ρ => (M.ofO (dicOf ρ i)).bind fun kvs => (f ρ).bind fun y => dAt kvs y) := by
  have un := hr.un
  refine PE.imp (pe_dget (by omega) (pe_var hN hv hd hcd) h hs) fun σ H Q ⟨F0, H0, F, ρ, r, q⟩ => ?_
  have q : PostE X W F H σ 0 ((M.ofO (dicOf ρ i)).bind fun kvs => (f ρ).bind fun y => dAt kvs y) Q := q
  cases e1 : dicOf ρ i with
  | none => rw [e1] at q; exact (show False from q).elim
  | some kvs =>
    rw [e1] at q
    have q : PostE X W F H σ 0 ((f ρ).bind fun y => dAt kvs y) Q := q
    obtain ⟨a0, vs0, es, _⟩ := r.slot i _ (dicOf_some e1)
    refine ⟨_, es, F0, H0, F, ρ, r, PostE.seq q fun y v F1 H1 g r1 q1 => ?_⟩
    cases y <;> first | exact (show False from q1).elim | skip
    rename_i n
    have q1 : PostE X W F1 H1 σ 0 (M.ofO (dGet kvs n)) Q := q1
    cases e3 : dGet kvs n with
    | none => rw [e3] at q1; exact (show False from q1).elim
    | some d =>
      rw [e3] at q1
      obtain ⟨a, vs, es2, fa, na, h1, t⟩ := (r.grow g).slot i _ (dicOf_some e1)
      rw [es] at es2
      cases es2
      obtain ⟨w, e4, dv⟩ := (dk_get (n := n) t).1 d e3
      refine ⟨a0, w, rfl, ?_, q1 w F1 H1 (Grow.refl g.fh) (by unfold Res; rw [if_pos rfl]; exact dv)⟩
      rw [r1.bv.int_inv, ← e4]
      exact DGet.k (k := Sum.inl n) h1
theorem st_dnew {i : Nat} {x : Str} (hN : X.N.Nodup) (hi : X.N[i]? = some x) (hx : L2.Loc X.env.scope x) (hf : X.fn x = true ∨ X.env.scope.names.lookup x = some .local) :
    PS X (.Assign [.Name x p] (.Dict [] [] pos) pos') (TS' X W fun ρ => .ok (.next ((killD ρ).set i (.dic [])))) := by
  refine PS.imp (ps_set hN hi hx pe_dnewK rfl hf) fun Q σ H ⟨F0, H0, F, ρ, r, q⟩ => ?_
  intro a hn
  have hf := r.sub.none hn
  have h0 := r.same.none hn
  exact q _ F _ (by rw [List.length_set]) ((r.kill).dic (a := a) (i := i) (kvs := []) (vs := []) kill_no hf h0 (fun b hb => upd_ne hb) (fun vs e => by rw [hn] at e; cases e) upd_same .nil)
theorem st_dput {i j : Nat} {x : Str} {ke e : Expr} {fk fe : Rho → M D} (hr : Room j X.A) (hk : PE X ke (TE' X W k fk)) (he : PE X e (TE' X W 0 fe)) (hN : X.N[i]? = some x) (hv : Vis X.env.scope x) (hd : (x == ("__debug__" : Str)) = false) (hcd : (x == ("__classdict__" : Str)) = false)
    (hs : swapsWith e (some (.Subscript (.Name x p) ke pos')) pos.line X.env = pure false) :
    PS X (.Assign [.Subscript (.Name x p) ke pos'] e pos) (TS' X W fun ρ => (fe ρ).bind fun d => (M.ofO (dicOf ρ i)).bind fun kvs => (fk ρ).bind fun x => (dSet kvs d x).bind fun l =>
      if kvs.length < line then .ok (.next ((killD ρ).set i (.dic l))) else .bad) := by
  have un := hr.un
  refine PS.imp (ps_dput (by omega) (pe_var hN hv hd hcd) hk he hs) fun Q σ H ⟨F0, H0, F, ρ, r, q⟩ => ⟨F0, H0, F, ρ, r, PostS.seqE r q fun d v F1 H1 g z q1 => ?_⟩
  have z : DV X.K F1 v d := by unfold Res at z; rw [if_pos rfl] at z; exact z
  cases e1 : dicOf ρ i with
  | none => rw [e1] at q1; exact (show False from q1).elim
  | some kvs =>
    rw [e1] at q1
    have r1 := r.grow g
    obtain ⟨a0, vs0, es, _⟩ := r1.slot i _ (dicOf_some e1)
    have q1 : PostS X W F0 H0 σ.length ((fk ρ).bind fun x => (dSet kvs d x).bind fun l => if kvs.length < line then .ok (.next ((killD ρ).set i (.dic l))) else .bad) Q := q1
    refine ⟨_, es, F0, H0, F1, ρ, r1, PostS.seqE r1 q1 fun y u F2 H2 g2 z2 q2 => ?_⟩
    cases y <;> first | exact (show False from q2).elim | skip
    rename_i n
    have q2 : PostS X W F0 H0 σ.length (if kvs.length < line then .ok (.next ((killD ρ).set i (.dic (dPut kvs n d)))) else .bad) Q := q2
    split at q2
    case isFalse => exact q2.elim
    rename_i hlt
    have r2 := r1.grow g2
    obtain ⟨a, vs, es2, fa, na, h1, t⟩ := r2.slot i _ (dicOf_some e1)
    rw [es] at es2
    cases es2
    obtain ⟨us, p1, p2⟩ := dk_put (n := n) (z.mono g2.f) t
    have hl : (dkV kvs vs).length < sizeLine := by rw [dk_len t, ← line_eq]; exact hlt
    refine ⟨a0, _, rfl, by rw [z2.bv.int_inv]; exact DPut.k (k := Sum.inl n) h1 hl, ?_⟩
    rw [p1]
    have rr := (r2.kill).dic (a := a0) (i := i) (kvs := dPut kvs n d) (vs := us) (H' := upd H2 a0 (.dK (dkV (dPut kvs n d) us))) kill_no fa na (fun b hb => upd_ne hb) (fun vs' e => by rw [h1] at e; cases e) upd_same p2
    have same : σ.set i (some (.ref a0)) = σ := by
      obtain ⟨hlen, e2⟩ := List.getElem?_eq_some_iff.mp es
      rw [← e2, List.set_getElem_self]
    rw [same] at rr
    exact q2 σ F2 _ rfl rr
end
end DL

/-! DKd: within an except suite: isinstance of the caught error, calls of a def that tells its kind. -/
namespace DL
open PySem PySem.Spec PyProof.Rows L2
/-- a caught error: its place, its object, its class, its own dict -/
structure Er where
  a : Addr
  o : Obj
  C : Addr
  d : Option Addr
structure Er.Ok (e : Er) : Prop where
  zc : Zc (.ref e.C) e.d e.o
  fl : ∃ vs, e.o.data = .fields vs
def Er.At (e : Er) (H : Hp) : Prop := ∀ dd, e.d = some dd → ∃ fs, H dd = some (.xd fs)
theorem Er.At.mono {e : Er} {F H : Hp} (h : e.At F) (s : Sub F H) : e.At H := fun dd q => by
  obtain ⟨fs, z⟩ := h dd q
  exact ⟨fs, s _ _ z⟩
/-- what is written of an error's class -/
structure ErC (K : Fg) (C : Addr) : Prop where
  ga : PySem.W.findIn K (.ref C) "__getattribute__" = some (some (.builtin "BaseException.__getattribute__"))
  gg : PySem.W.findIn K (.ref C) "__getattr__" = some none
  ex : PySem.W.subIn K (.ref C) (.type "BaseException") = some true
  hd : PySem.W.hasDictIn K C = true
  ca : PySem.W.findIn K (.ref C) "__class__" = some (some (.builtin "object.__class__"))
  ob : PySem.W.mroIn K C (.type "object") = some true
  gs : PySem.W.specialIn K (.builtin "object.__class__") "__get__" = some (some (.builtin "getset_descriptor.__get__"))
  tk : PySem.W.takesIn K (.builtin "object.__class__") = some true
def rEr (K : Fg) (e : Er) : List V → Hp → VK → Prop := fun xs H Q => ∃ (c : V) (cv : Value) (b : Bool), xs = [.ref e.a, c] ∧ (∀ u, RelV c u → u = cv) ∧ PySem.W.kitOne K (.ref e.C) cv = some b ∧ e.At H ∧ Q (.bl b) H
theorem er_inst {X : Cx} {e : Er} {pins : List (Addr × Obj)} {σ : St} {H : Hp} {s : Shared} (hp : (e.a, e.o) ∈ X.pn) (ok : e.Ok) (I : Inv X pins σ H s) (ha : e.At H) : ∃ od, PySem.W.InstAt s.heap e.a e.o e.C od := by
  have g := (I.pin (e.a, e.o) (List.mem_append_left _ hp)).1
  obtain ⟨vs, hv⟩ := ok.fl
  obtain ⟨z1, z2⟩ := ok.zc
  have nc : PySem.W.notCls e.o = true := by unfold PySem.W.notCls; rw [hv] <;> rfl
  cases q : e.d with
  | none => exact ⟨none, g, z1, nc, by rw [z2, q]; trivial⟩
  | some dd =>
    obtain ⟨fs, z⟩ := ha dd q
    have hx : ObjOk X.prog X.w H s.heap dd (.xd fs) := I.hok dd _ z
    obtain ⟨mA, hns, _⟩ := hx
    obtain ⟨od, ho, _⟩ := lookIn_ns hns
    exact ⟨some od, g, z1, nc, by rw [z2, q]; exact ho⟩
theorem er_is {X : Cx} {e : Er} (hp : (e.a, e.o) ∈ X.pn) (ok : e.Ok) (T : ErC X.K e.C) : CallR X (.builtin "isinstance") (rEr X.K e) := by
  intro pins s σ H xs us Q I r h
  obtain ⟨c, cv, b, rfl, hcv, hk, ha, q⟩ := h
  cases r with
  | cons rx rr =>
    cases rr with
    | cons rt rr =>
      cases rr
      cases rx
      cases hcv _ rt
      obtain ⟨od, J⟩ := er_inst hp ok I ha
      obtain ⟨cd, hc, _⟩ := PySem.W.any_some T.hd
      exact PySem.W.kia_one (PySem.W.kitx_exc (by rw [hc]; rfl) T.ga T.gg T.ex T.ca T.gs T.tk T.ob) I.kIn J hk (fun z => nomatch z) fun tk => ⟨.bl b, H, I.kept (t' := tk) fun _ _ z => z, rfl, q⟩
/-- a class of the text in the second place -/
theorem kit_ref {K : Fg} {C D : Addr} {b : Bool} (h1 : PySem.W.hasDictIn K D = true) (h2 : PySem.W.typeIn K (.ref D) = some (.type "type")) (h3 : PySem.W.subIn K (.ref C) (.ref D) = some b) (h4 : (Value.ref C == Value.ref D && !b) = false) : PySem.W.kitOne K (.ref C) (.ref D) = some b := by
  obtain ⟨cd, hc, _⟩ := PySem.W.any_some h1
  unfold PySem.W.kitOne
  by_cases e : (Value.ref C == Value.ref D) = true
  · rw [if_pos e]
    rw [e, Bool.true_and, Bool.not_eq_false'] at h4
    rw [h4]
  · rw [if_neg e]
    have e2 : ((PySem.W.clsIn K D).isSome && PySem.W.typeIn K (.ref D) == some (.type "type")) = true := by rw [hc, h2] <;> rfl
    show (if ((PySem.W.clsIn K D).isSome && PySem.W.typeIn K (.ref D) == some (.type "type")) = true then PySem.W.subIn K (.ref C) (.ref D) else none) = some b
    rw [if_pos e2]
    exact h3
theorem kit_val {K : Fg} {C : Addr} (h : PySem.W.subIn K (.ref C) (.type "ValueError") = some true) : PySem.W.kitOne K (.ref C) (.type "ValueError") = some true := by
  unfold PySem.W.kitOne
  rw [if_neg (fun z => by cases beq_iff_eq.mp z)]
  show (if PySem.W.kitMeta "ValueError" = true then PySem.W.subIn K (.ref C) (.type "ValueError") else none) = _
  rw [if_pos (by decide +kernel)]
  exact h
/-- which clause takes it -/
theorem exm_er {K : Fg} {C D : Addr} {b : Bool} (h0 : PySem.W.subIn K (.ref D) (.type "BaseException") = some true) (h1 : PySem.W.hasDictIn K D = true) (h2 : PySem.W.typeIn K (.ref D) = some (.type "type")) (h3 : PySem.W.subIn K (.ref C) (.ref D) = some b) : PySem.W.exmOne K (.ref C) (.ref D) = some b := by
  obtain ⟨cd, hc, _⟩ := PySem.W.any_some h1
  have e1 : (PySem.W.subIn K (.ref D) (.type "BaseException") == some true) = true := by rw [h0] <;> rfl
  have e2 : ((PySem.W.clsIn K D).isSome && PySem.W.typeIn K (.ref D) == some (.type "type")) = true := by rw [hc, h2] <;> rfl
  show (if (PySem.W.subIn K (.ref D) (.type "BaseException") == some true) = true then (if ((PySem.W.clsIn K D).isSome && PySem.W.typeIn K (.ref D) == some (.type "type")) = true then PySem.W.subIn K (.ref C) (.ref D) else none) else none) = some b
  rw [if_pos e1, if_pos e2]
  exact h3
/-! list.count of True among truths -/
def rCntB (K : Fg) : V → List V → Hp → VK → Prop := fun x xs H Q => ∃ (p : Addr) (bs : List Bool), x = .ref p ∧ xs = [.bl true] ∧ SqL K H p (bs.map V.bl) ∧ Q (.int (bs.count true : Nat)) H
theorem count_eqU : ∀ {bs : List Bool} {its : List Value}, Vals (bs.map V.bl) its → its.countP (eqU (.bl true)) = bs.count true
  | [], _, h => by cases h; rfl
  | b :: bs, _, h => by
    cases h with
    | cons r rs =>
      have ih := count_eqU rs
      rw [List.countP_cons, ih, List.count_cons, eqU_of r rfl]
      cases b <;> rfl
theorem mt_cntB {X : Cx} : MtR X "list.count" (rCntB X.K) := by
  intro pins s σ H x xs v us Q I rx rxs h
  obtain ⟨p, bs, rfl, rfl, hs, q⟩ := h
  cases rx
  obtain ⟨u, rfl, ru⟩ := rxs.one
  obtain ⟨its, rv, ⟨⟨cls, dd, data, sl⟩, n, ho, hc, hdn, hd⟩, hlen⟩ := I.list hs
  simp only at hc hd
  subst hc hd
  have fys : (bs.map V.bl).all flatV = true := by
    rw [List.all_eq_true]
    intro z hz
    obtain ⟨b, _, rfl⟩ := List.mem_map.mp hz
    rfl
  refine call_meets PySem.F.slot_list_count ⟨_, ho, rfl⟩ PySem.F.entry_list_count (PySem.F.args_list_count_2 _ _) (SeqAt.list_countAt p its.toArray n dd sl u (eqU (.bl true))) ⟨ho, fun y hy => mem_eqAt ru rfl rv fys y (by simpa using hy), ?_⟩
  refine ⟨.int (bs.count true : Nat), H, I.tok _, ⟨s.toks, ?_⟩, q⟩
  show Value.int ((its.toArray.toList.countP (eqU (.bl true)) : Nat) : Int) s.toks = _
  rw [show its.toArray.toList = its from rfl, count_eqU rv]
def nm (x : Str) : Bool := !(x == ("__debug__" : Str)) && !(x == ("__classdict__" : Str))
theorem nm_d {x : Str} (h : nm x = true) : (x == ("__debug__" : Str)) = false ∧ (x == ("__classdict__" : Str)) = false := by
  unfold nm at h
  rw [Bool.and_eq_true, Bool.not_eq_true', Bool.not_eq_true'] at h
  exact h
/-! ### a def that is asked within the suite, of the caught error itself -/
structure FnK (P : Program) (w : World) (K : Fg) (mg : Str → Option Value) (base : Heap) (k : Nat) (f : Addr) (fd : FuncData) (x : Str) (e : Er) (sp : Hp → VK → Prop) : Prop where
  go : ∀ (A : Around) (outer : List Env) (s : Shared) (H : Hp) (args : Args) (Q : VK), L2H.RoomH k A → L2H.PinOk outer H s (e.a, e.o) → Env0 P w K mg base A outer s H → BindsTo s fd args [(x, .ref e.a)] → sp H Q →
    codeAny (model P w) A (.call (.ref f) args) (CR (L2.CX P w) outer P w H s Q fun _ _ _ => False) s
theorem fnK_of {P : Program} {w : World} {K : Fg} {mg : Str → Option Value} {base : Heap} {k : Nat} {f : Addr} {fd : FuncData} {x qual : Str} {st : Stmt} {e : Er} {sp : Hp → VK → Prop} {N : List Str} {nm : Str}
    (F : Fun K nm qual st f fd) (S : FnScope N [x] (defScope st))
    (go : ∀ (Y : Cx), Y.prog = P → Y.w = w → Y.K = K → Y.mg = mg → Y.base = base → Y.N = N → Y.env.scope = defScope st → (e.a, e.o) ∈ Y.pn → (∀ y, Y.fn y = true) → ∃ t, PSs Y (defBody st) t ∧ ∀ H Q, sp H Q → t { nx := fun _ H' => Q .non H', rt := Q } (L2.start N [.ref e.a]) H) :
    FnK P w K mg base (k + 1) f fd x e sp := by
  obtain ⟨oc, od, kV, doc, pm, an, cdv, ct, osl, rfl, hl, hc⟩ := F.ex
  refine ⟨fun A outer s H args Q hr hpin ev hb hsp => ?_⟩
  have st1 : ∀ b o, base.get? b = some o → s.heap.get? b = some o := fun b o z => (ev.bs b o z).1
  have inK : K.In s.heap := ev.mod.kin.keeps st1
  have par : ∀ y ∈ [x].zip [Value.ref e.a], (defScope st).names.lookup y.1 = some .local ∨ ((defScope st).names.lookup y.1 = some .cell ∧ ((cellsFrom (s.heap.objs.size + 1) (defScope st).names []).lookup y.1).isSome = true) := fun ⟨n, v⟩ hy => by
    rcases S.par n (List.of_mem_zip hy).1 with q | q
    · exact .inl q
    · exact .inr ⟨q, PySem.W.cellsFrom_some _ _ _ (.inl q)⟩
  refine codeAny_call_function hr.depth (inK _ _ hl) rfl S.co S.gen rfl (PySem.W.codeRec_of inK hc) (hb _ _ _ _ ?_)
  refine wpAny_newFunctionEnv_cells S.kind par fun env he s1 z => ?_
  subst he
  refine ⟨(ev.mod.nolimit.keeps st1).keeps z.toInCall.keep, codeAny_func ?_⟩
  have J : Inv (L2H.cxH (L2.CX P w) P w K mg base N qual (defScope st) f cdv A outer s H (fun _ _ _ => False) (e.a, e.o)) [] (L2.start N [.ref e.a]) H s1 :=
    L2H.inv_startH S hpin ev rfl (.cons rfl .nil) z
  obtain ⟨t, ht, hq⟩ := go (L2H.cxH (L2.CX P w) P w K mg base N qual (defScope st) f cdv A outer s H (fun _ _ _ => False) (e.a, e.o)) rfl rfl rfl rfl rfl rfl rfl List.mem_cons_self fun _ => rfl
  refine wpAny_mono (ht.run [] s1 _ H _ J (hq H Q hsp)) (fun fl s' hs => ?_) fun u s' hs => hs
  cases fl with
  | ret u =>
    obtain ⟨v, σ', H', L, rv, q⟩ := hs
    exact ⟨v, H', L.os, L.bare, L.base, L.hok, rv, q⟩
  | next =>
    obtain ⟨σ', H', L, q⟩ := hs
    exact ⟨V.non, H', L.os, L.bare, L.base, L.hok, rfl, q⟩
  | brk =>
    obtain ⟨_, _, _, q⟩ := hs
    exact q.elim
  | cont =>
    obtain ⟨_, _, _, q⟩ := hs
    exact q.elim
theorem cx_no {P : Program} {w : World} {l : List Env} : ∀ {H : Hp} {s : Shared} {e : Value} {s' : Shared}, L2.CX P w l H s (fun _ _ _ => False) e s' → False := fun h => by
  obtain ⟨_, _, _, _, _, _, _, _, _, _, _, _, z⟩ := h
  exact z
/-- the call -/
theorem pe_callK {X : Cx} {e : Er} {k : Nat} {f : Addr} {fd : FuncData} {x y g : Str} {sp : Hp → VK → Prop} {i : Nat} {q1 q2 pos : Pos} (F : FnK X.prog X.w X.K X.mg X.base k f fd x e sp) (hp : (e.a, e.o) ∈ X.pn) (hr : L2H.RoomH k X.A) (hg : Gl X g) (gm : X.mg g = some (.ref f))
    (kp : PySem.W.keepIn X.K (.ref f) = true) (bd : Binds X.K fd [x] []) (hN : X.N[i]? = some y) (hv : Vis X.env.scope y) (hd : nm g = true) (hy : nm y = true) :
    PE X (.Call (.Name g q1) [.Name y q2] [] pos) (fun σ H Q => σ[i]? = some (some (.ref e.a)) ∧ sp H Q) := by
  refine ⟨fun pins s σ H Q I ⟨h1, h2⟩ => ?_⟩
  refine wpAny_Call_Name_kw (ld_glob I hg gm ?_ (nm_d hd).1)
  have pa := (pa_cons (pe_var (pos := q2) hN hv (nm_d hy).1 (nm_d hy).2) pa_nil).run pos pins s σ H (fun vs H1 => vs = [.ref e.a] ∧ sp H1 Q) I ⟨_, h1, rfl, h2⟩
  refine PySem.W.callWith_K (h₀ := X.base) I.ok.mod.kin kp (thn pa fun us s1 ⟨vs, H1, J, r, ev, q⟩ => ⟨J.kIn, ?_⟩) rfl rfl
  subst ev
  cases r with
  | cons rx rr =>
    cases rr
    cases rx
    have b := bd s1 [.ref e.a] J.kIn rfl
    have P1 := J.pin (e.a, e.o) (List.mem_append_left _ hp)
    have pk : L2H.PinOk X.stack H1 s1 (e.a, e.o) := ⟨P1.1, P1.2.1, fun z => (List.mem_cons.mp (J.stkSub e.a z)).elim P1.2.2.1 P1.2.2.2.1, P1.2.2.2.2⟩
    refine wpAny_call (codeAny_mono (F.go X.A X.stack s1 H1 ⟨[.ref e.a], []⟩ Q hr pk J.env0 b q) fun r s' hq => ?_)
    cases r with
    | error u =>
      exact (DL.cx_no hq).elim
    | ok fl =>
      cases fl with
      | ret u => exact J.after hq
      | next => exact False.elim hq
      | brk => exact False.elim hq
      | cont => exact False.elim hq
end DL

/-! DKd2: a def that tells a caught error's kind: its number in a row of classes. -/
namespace DL
open PySem PySem.Spec PyProof.Rows L2
def isC (e : Str) : Expr → Option Str
  | .Call (.Name f _) [.Name x _, .Name c _] [] _ => if f = ("isinstance" : Str) ∧ x = e ∧ nm c = true then some c else none
  | _ => none
def isCs (e : Str) : List Expr → Option (List Str)
  | [] => some []
  | a :: as => do
    let c ← isC e a
    let cs ← isCs e as
    some (c :: cs)
/-- found = found + [..]; .. ; if not isinstance(e, ValueError) or found.count(True) != 1: return -1; return found.index(True) -/
def kdMore (e f : Str) : List Str → List Stmt → Option (List Str)
  | acc, [.If (.BoolOp .Or [.UnaryOp .Not v _, .Compare (.Call (.Attribute (.Name f1 _) m1 ap1) [.Constant (.bool true) _ _] [] cp1) [.NotEq] [.Constant (.int 1) _ _] _] _) [.Return (some (.UnaryOp .USub (.Constant (.int _) _ _) _)) _] [] _,
      .Return (some (.Call (.Attribute (.Name f2 _) m2 ap2) [.Constant (.bool true) _ _] [] cp2)) _] =>
    if isC e v = some ("ValueError" : Str) ∧ f1 = f ∧ f2 = f ∧ m1 = ("count" : Str) ∧ m2 = ("index" : Str) ∧ (ap1.endLine == cp1.line) = true ∧ (ap2.endLine == cp2.line) = true then some acc else none
  | acc, .Assign [.Name x _] (.BinOp (.Name y _) .Add (.List es _) _) _ :: rest => if x = f ∧ y = f then (isCs e es).bind fun cs => kdMore e f (acc ++ cs) rest else none
  | _, _ => none
def kdBody (e f : Str) : List Stmt → Option (List Str)
  | .Assign [.Name x _] (.List es _) _ :: rest => if x = f then (isCs e es).bind fun cs => kdMore e f cs rest else none
  | _ => none
/-- the context: the error in slot 0, the row in slot 1 -/
structure KdX (X : Cx) (e : Er) (ex fx : Str) (b : Str → Bool) (cs : List Str) : Prop where
  pin : (e.a, e.o) ∈ X.pn
  ok : e.Ok
  T : ErC X.K e.C
  N : X.N = [ex, fx]
  nd : X.N.Nodup
  ve : X.env.scope.names.lookup ex = some .local
  vf : X.env.scope.names.lookup fx = some .local
  ne : nm ex = true
  nf : nm fx = true
  isg : Gl X "isinstance"
  ism : X.mg "isinstance" = none
  vg : Gl X "ValueError"
  vm : X.mg "ValueError" = none
  vk : PySem.W.kitOne X.K (.ref e.C) (.type "ValueError") = some true
  cl : ∀ c ∈ cs, Gl X c ∧ ∃ D, X.mg c = some (.ref D) ∧ PySem.W.kitOne X.K (.ref e.C) (.ref D) = some (b c)
section
variable {X : Cx} {e : Er} {ex fx : Str} {b : Str → Bool} {cs : List Str}
def tEr (e : Er) (v : V) : TE := fun σ H Q => σ[0]? = some (some (.ref e.a)) ∧ e.At H ∧ Q v H
def tErs (e : Er) (vs : List V) : TA := fun σ H Q => σ[0]? = some (some (.ref e.a)) ∧ e.At H ∧ Q vs H
theorem isC_ok (h : KdX X e ex fx b cs) {a : Expr} {c : Str} (q : isC ex a = some c) (hc : c ∈ cs) : PE X a (tEr e (.bl (b c))) ∧ (∀ x p, a ≠ .Starred x p) := by
  unfold isC at q
  split at q
  · rename_i f p1 x p2 c' p3 p4
    split at q
    case isFalse => cases q
    rename_i z
    cases q
    obtain ⟨rfl, rfl, nc⟩ := z
    obtain ⟨gc, D, mc, k⟩ := h.cl c hc
    refine ⟨?_, fun x p z => by cases z⟩
    have i0 : X.N[0]? = some x := by rw [h.N]; rfl
    refine PE.imp (pe_callB (er_is h.pin h.ok h.T) h.isg h.ism (by decide +kernel) (pa_cons (pe_var i0 (.inl h.ve) (nm_d h.ne).1 (nm_d h.ne).2) (pa_cons (pe_glob (v := .ref D) gc mc rfl (nm_d nc).1) pa_nil))) fun σ H Q ⟨h1, h2, h3⟩ => ?_
    exact ⟨_, h1, .ref D, .ref D, b c, rfl, fun u z => z, k, h2, h3⟩
  · cases q
theorem isV_ok (h : KdX X e ex fx b cs) {a : Expr} (q : isC ex a = some ("ValueError" : Str)) : PT X a (fun σ H Q => σ[0]? = some (some (.ref e.a)) ∧ e.At H ∧ Q true H) := by
  unfold isC at q
  split at q
  · rename_i f p1 x p2 c' p3 p4
    split at q
    case isFalse => cases q
    rename_i z
    cases q
    obtain ⟨rfl, rfl, nc⟩ := z
    have i0 : X.N[0]? = some x := by rw [h.N]; rfl
    refine PT.imp (pt_val (pe_callB (er_is h.pin h.ok h.T) h.isg h.ism (by decide +kernel) (pa_cons (pe_var i0 (.inl h.ve) (nm_d h.ne).1 (nm_d h.ne).2) (pa_cons (pe_bltn (v := .ty "ValueError") h.vg h.vm (by decide +kernel) rfl) pa_nil)))) fun σ H Q ⟨h1, h2, h3⟩ => ?_
    exact ⟨_, h1, .ty "ValueError", .type "ValueError", true, rfl, fun u z => z, h.vk, h2, true, rfl, h3⟩
  · cases q
theorem isCs_ok (h : KdX X e ex fx b cs) : ∀ {as : List Expr} {ds : List Str}, isCs ex as = some ds → (∀ c ∈ ds, c ∈ cs) → PA X as (tErs e ((ds.map b).map V.bl))
  | [], ds, q, _ => by
    cases q
    exact PA.imp pa_nil fun σ H Q ⟨h1, h2, h3⟩ => h3
  | a :: as, ds, q, hc => by
    unfold isCs at q
    simp only [Option.bind_eq_bind, Option.bind_eq_some_iff] at q
    obtain ⟨c, q1, ds', q2, q3⟩ := q
    cases q3
    obtain ⟨p1, p2⟩ := isC_ok h q1 (hc c List.mem_cons_self)
    exact PA.imp (pa_cons p1 (isCs_ok h q2 fun c' hc' => hc c' (List.mem_cons_of_mem _ hc')) (star_cons p2 _ _)) fun σ H Q ⟨h1, h2, h3⟩ => ⟨h1, h2, h1, h2, h3⟩
/-- what stands behind a part of the row -/
def tKd (e : Er) (b : Str → Bool) (acc cs : List Str) : TS := fun D σ H => σ.length = 2 ∧ σ[0]? = some (some (.ref e.a)) ∧ (∃ p, σ[1]? = some (some (.ref p)) ∧ H p = some (.lst ((acc.map b).map V.bl))) ∧ e.At H ∧ acc.length ≤ cs.length ∧ cs.length ≤ 1000 ∧ (cs.map b).count true = 1 ∧ ∀ H', Sub H H' → D.rt (.int ((cs.map b).idxOf true : Nat)) H'
theorem sub_new {H : Hp} {p : Addr} {o : HO} (h : H p = none) : Sub H (upd H p o) := sub_upd h
theorem kdMore_pre : ∀ {sts : List Stmt} {acc ds : List Str}, kdMore ex fx acc sts = some ds → ∃ r, ds = acc ++ r := by
  intro sts
  induction sts with
  | nil => intro acc ds q; unfold kdMore at q; cases q
  | cons st sts ih =>
    intro acc ds q
    unfold kdMore at q
    split at q
    · split at q
      · cases q; exact ⟨[], (List.append_nil _).symm⟩
      · cases q
    · rename_i heq
      cases heq
      split at q
      case isFalse => cases q
      rw [Option.bind_eq_some_iff] at q
      obtain ⟨c2, _, q2⟩ := q
      obtain ⟨r, e⟩ := ih q2
      exact ⟨c2 ++ r, by rw [e, List.append_assoc]⟩
    · cases q
theorem idx_before : ∀ {bs : List Bool} {m : Nat}, m < bs.idxOf true → bs[m]? ≠ some true
  | [], m, h, z => by simp at z
  | b :: bs, m, h, z => by
    rw [List.idxOf_cons] at h
    cases b with
    | true => simp at h
    | false =>
      cases m with
      | zero => simp at z
      | succ m =>
        simp at h z
        exact idx_before (bs := bs) (m := m) (by simpa using h) z
theorem kdMore_ok (h : KdX X e ex fx b cs) : ∀ {sts : List Stmt} {acc : List Str}, kdMore ex fx acc sts = some cs → PSs X sts (tKd e b acc cs) := by
  have i0 : X.N[0]? = some ex := by rw [h.N]; rfl
  have i1 : X.N[1]? = some fx := by rw [h.N]; rfl
  intro sts
  induction sts with
  | nil => intro acc q; unfold kdMore at q; cases q
  | cons st sts ih =>
    intro acc q
    have pre := kdMore_pre q
    unfold kdMore at q
    split at q
    · rename_i acc a1 a2 v q12 f1 q11 m1 ap1 k3 q10 cp1 k2 q9 q8 q7 i7 k1 q6 q5 q4 q3 f2 q2 m2 ap2 k0 q1 cp2 q0 heq
      cases heq
      split at q
      case isFalse => cases q
      rename_i z
      cases q
      obtain ⟨qv, rfl, rfl, rfl, rfl, l1, l2⟩ := z
      have p1 := fun (p : Pos) => pe_var (X := X) (pos := p) i1 (.inl h.vf) (nm_d h.nf).1 (nm_d h.nf).2
      refine PSs.imp (pss_cons (ps_if (pw_or (pt_not (isV_ok h qv)) (pw_or1 (pt_cmpR op_ne (pe_bm PySem.F.plainAttrs_list PySem.F.slot_list_count PySem.F.type_list_count (mt_cntB : MtR X "list.count" (rCntB X.K)) (p1 _) (pa_cons pe_bl pa_nil) rfl rfl l1) pe_int rfl))).pt
        (pss_one (ps_ret (pe_un un_neg pe_int))) pss_nil)
        (pss_one (ps_ret (pe_bm PySem.F.plainAttrs_list PySem.F.slot_list_index PySem.F.type_list_index (mt_index : MtR X "list.index" (rIndex X.K)) (p1 _) (pa_cons pe_bl pa_nil) rfl rfl l2)))) fun D σ H ⟨hl, h0, ⟨p, h1, hp⟩, ha, hb, hb2, hc, hd⟩ => ?_
      refine ⟨h0, ha, ?_⟩
      show if (!true) = true then _ else _
      rw [if_neg (by decide)]
      refine ⟨_, h1, .inl ⟨rfl, _, SqL.of hp⟩, p, cs.map b, rfl, rfl, SqL.of hp, rfl, ?_⟩
      refine ⟨_, rfl, ?_⟩
      rw [hc]
      show if (!decide (V.int ((1 : Nat) : Int) = V.int 1)) = true then _ else _
      rw [if_neg (by decide)]
      refine ⟨_, h1, .inl ⟨rfl, _, SqL.of hp⟩, p, (cs.map b).map V.bl, .bl true, (cs.map b).idxOf true, .bl true, rfl, rfl, SqL.of hp, rfl, ?_, ?_, rfl, ?_, hd H (Sub.refl _)⟩
      · rw [List.all_eq_true]
        intro z hz
        obtain ⟨k, _, rfl⟩ := List.mem_map.mp hz
        rfl
      · have hm : true ∈ cs.map b := List.count_pos_iff.mp (by omega)
        have hlt := List.idxOf_lt_length_of_mem hm
        rw [List.getElem?_map, List.getElem?_eq_getElem hlt, List.getElem_idxOf hlt]
        rfl
      · intro m z' hm hz
        rw [List.getElem?_map, Option.map_eq_some_iff] at hz
        obtain ⟨k, hk, rfl⟩ := hz
        cases k with
        | false => rfl
        | true => exact absurd hk (idx_before hm)
    · rename_i acc a1 a2 x px y py es p1 p2 p3 rest heq
      cases heq
      split at q
      case isFalse => cases q
      rename_i z
      obtain ⟨rfl, rfl⟩ := z
      rw [Option.bind_eq_some_iff] at q
      obtain ⟨c2, q1, q2⟩ := q
      obtain ⟨r, er⟩ := kdMore_pre q2
      have ih := ih q2
      have pes := isCs_ok h q1 fun c hc => by rw [er]; exact List.mem_append_left _ (List.mem_append_right _ hc)
      refine PSs.imp (pss_cons (ps_set h.nd i1 (.inl h.vf) (pe_op op_cat (pe_var i1 (.inl h.vf) (nm_d h.nf).1 (nm_d h.nf).2) (pe_lst pes)) rfl (.inr h.vf)) ih) fun D σ H ⟨hl, h0, ⟨p, h1, hp⟩, ha, hb, hb2, hc, hd⟩ => ?_
      have hlen : acc.length + c2.length ≤ cs.length := by rw [er, List.length_append, List.length_append]; omega
      refine ⟨_, h1, h0, ha, by rw [List.length_map, List.length_map, sizeLine_eq]; omega, fun l hn => ?_⟩
      have hpl : p ≠ l := fun z => by rw [z, hn] at hp; cases hp
      refine ⟨p, l, _, _, rfl, rfl, (upd_ne hpl).trans hp, upd_same, by rw [List.length_map, List.length_map, List.length_map, List.length_map, sizeLine_eq]; omega, fun l2 hn2 => ?_⟩
      have s1 : Sub H (upd H l (.lst ((c2.map b).map V.bl))) := sub_upd hn
      have s2 := s1.trans (sub_upd (o := .lst ((acc.map b).map V.bl ++ (c2.map b).map V.bl)) hn2)
      refine ⟨by rw [List.length_set]; exact hl, by rw [List.getElem?_set_ne (by decide)]; exact h0, ⟨l2, by rw [List.getElem?_set_self (by omega)], ?_⟩, ha.mono s2, by rw [List.length_append]; exact hlen, hb2, hc, fun H' s => hd H' (s2.trans s)⟩
      rw [upd_same, List.map_append, List.map_append]
    · cases q
theorem kdBody_ok {sts : List Stmt} (h : KdX X e ex fx b cs) (q : kdBody ex fx sts = some cs) : PSs X sts (fun D σ H => σ.length = 2 ∧ σ[0]? = some (some (.ref e.a)) ∧ e.At H ∧ cs.length ≤ 1000 ∧ (cs.map b).count true = 1 ∧ ∀ H', Sub H H' → D.rt (.int ((cs.map b).idxOf true : Nat)) H') := by
  have i1 : X.N[1]? = some fx := by rw [h.N]; rfl
  unfold kdBody at q
  split at q
  · rename_i x px es p1 p2 rest
    split at q
    case isFalse => cases q
    rename_i z
    subst z
    rw [Option.bind_eq_some_iff] at q
    obtain ⟨c2, q1, q2⟩ := q
    obtain ⟨r, er⟩ := kdMore_pre q2
    have ih := kdMore_ok h q2
    have pes := isCs_ok h q1 fun c hc => by rw [er]; exact List.mem_append_left _ hc
    refine PSs.imp (pss_cons (ps_set h.nd i1 (.inl h.vf) (pe_lst pes) rfl (.inr h.vf)) ih) fun D σ H ⟨hl, h0, ha, hb2, hc, hd⟩ => ?_
    have hlen : c2.length ≤ cs.length := by rw [er, List.length_append]; omega
    refine ⟨h0, ha, by rw [List.length_map, List.length_map, sizeLine_eq]; omega, fun l hn => ?_⟩
    have s1 : Sub H (upd H l (.lst ((c2.map b).map V.bl))) := sub_upd hn
    exact ⟨by rw [List.length_set]; exact hl, by rw [List.getElem?_set_ne (by decide)]; exact h0, ⟨l, by rw [List.getElem?_set_self (by omega)], upd_same⟩, ha.mono s1, hlen, hb2, hc, fun H' s => hd H' (s1.trans s)⟩
  · cases q
end
end DL

/-! DKd3: an except suite that tells the caught error's kind and fields. -/
namespace DL
open PySem PySem.Spec PyProof.Rows L2
structure KdI where
  kn : Str
  ex : Str
  me : Str
  tbl : KTb
def spKd (e : Er) (k : Int) : Hp → VK → Prop := fun H Q => e.At H ∧ ∀ H', Sub H H' → Q (.int k) H'
structure KdOk (P : Program) (w : World) (K : Fg) (mg : Str → Option Value) (base : Heap) (t : KdI) (j : Nat) : Prop where
  me : ∃ M, mg t.me = some (.ref M) ∧ ∀ c k ns, t.tbl.lookup c = some (k, ns) → ∀ C, mg c = some (.ref C) → ErC K C ∧ PySem.W.exmOne K (.ref C) (.ref M) = some true ∧ ∀ n ∈ ns, PySem.W.findIn K (.ref C) n = some none
  fn : ∃ f fd, mg t.kn = some (.ref f) ∧ PySem.W.keepIn K (.ref f) = true ∧ Binds K fd [t.ex] [] ∧ ∀ c k ns, t.tbl.lookup c = some (k, ns) → ∀ C, mg c = some (.ref C) → ∀ e : Er, e.C = C → e.Ok → FnK P w K mg base j f fd t.ex e (spKd e k)
theorem FnK.mono {P : Program} {w : World} {K : Fg} {mg : Str → Option Value} {base : Heap} {j k : Nat} {f : Addr} {fd : FuncData} {x : Str} {e : Er} {sp : Hp → VK → Prop} (F : FnK P w K mg base j f fd x e sp) (h : j ≤ k) : FnK P w K mg base k f fd x e sp :=
  ⟨fun A outer s H args Q hr => F.go A outer s H args Q (hr.mono h)⟩
theorem KdOk.mono {P : Program} {w : World} {K : Fg} {mg : Str → Option Value} {base : Heap} {t : KdI} {j k : Nat} (h : KdOk P w K mg base t j) (hk : j ≤ k) : KdOk P w K mg base t k :=
  ⟨h.me, by
    obtain ⟨f, fd, a, b, c, d⟩ := h.fn
    exact ⟨f, fd, a, b, c, fun c k ns q C hC e he ok => (d c k ns q C hC e he ok).mono hk⟩⟩
/-- the caught error's fields -/
def XF (K : Fg) (F H : Hp) (e : Er) (fs : List (Str × D)) : Prop := (fs = [] ∧ e.d = none) ∨ ∃ d fv, e.d = some d ∧ H d = some (.xd fv) ∧ fv.map (·.1) = fs.map (·.1) ∧ DVs K F (fv.map (·.2)) (fs.map (·.2))
theorem XF.mono {K : Fg} {F H H' : Hp} {e : Er} {fs : List (Str × D)} (h : XF K F H e fs) (s : Sub H H') : XF K F H' e fs := by
  rcases h with h | ⟨d, fv, a, b, c, z⟩
  · exact .inl h
  · exact .inr ⟨d, fv, a, s _ _ b, c, z⟩
theorem XF.at {K : Fg} {F H : Hp} {e : Er} {fs : List (Str × D)} (h : XF K F H e fs) : e.At H := fun dd q => by
  rcases h with ⟨_, h⟩ | ⟨d, fv, a, b, c, z⟩
  · rw [h] at q; cases q
  · rw [a] at q; cases q; exact ⟨_, b⟩
theorem look_dv {K : Fg} {F : Hp} {f : Str} {d : D} : ∀ {fv : List (Str × V)} {fs : List (Str × D)}, fv.map (·.1) = fs.map (·.1) → DVs K F (fv.map (·.2)) (fs.map (·.2)) → fs.lookup f = some d → ∃ v, fv.lookup f = some v ∧ DV K F v d
  | _, [], _, _, h => by cases h
  | [], _ :: _, h, _, _ => by cases h
  | (n, v) :: fv, (m, x) :: fs, hn, hd, h => by
    simp only [List.map_cons, List.cons.injEq] at hn
    obtain ⟨rfl, hn⟩ := hn
    rw [List.map_cons, List.map_cons] at hd
    obtain ⟨v', r, e, h1, h2⟩ := hd.uncons
    cases e
    rw [List.lookup_cons] at h ⊢
    by_cases q : (f == n) = true
    · rw [q] at h ⊢; cases h; exact ⟨_, rfl, h1⟩
    · rw [Bool.not_eq_true] at q
      rw [q] at h ⊢
      exact look_dv hn h2 h
theorem x1M_noex {k : Int} {ns : List Str} {fs : List (Str × D)} {c : Str} {gs : List (Str × D)} : ∀ {x : X1}, x1M k ns fs x ≠ .ex c gs
  | .kd, h => by cases h
  | .int _, h => by cases h
  | .fld f, h => by
    have h : (if f ∈ ns then M.ofO (fs.lookup f) else M.bad) = M.ex c gs := h
    split at h
    · cases e : fs.lookup f with
      | none => rw [e] at h; cases h
      | some d => rw [e] at h; cases h
    · cases h
theorem x1sM_noex {k : Int} {ns : List Str} {fs : List (Str × D)} {c : Str} {gs : List (Str × D)} : ∀ {xs : List X1}, x1sM k ns fs xs ≠ .ex c gs
  | [], h => by cases h
  | x :: xs, h => by
    unfold x1sM at h
    cases e : x1M k ns fs x with
    | ex c' g' => exact x1M_noex e
    | bad => rw [e] at h; cases h
    | ok d =>
      rw [e] at h
      cases e2 : x1sM k ns fs xs with
      | ex c' g' => exact x1sM_noex e2
      | bad => rw [M.bind_ok, e2] at h; cases h
      | ok ds => rw [M.bind_ok, e2] at h; cases h
theorem xhM_noex {k : Int} {ns : List Str} {fs : List (Str × D)} {c : Str} {gs : List (Str × D)} : ∀ {h : XH}, xhM k ns fs h ≠ .ex c gs
  | .one x, h => x1M_noex h
  | .lst xs, h => by
    unfold xhM at h
    cases e : x1sM k ns fs xs with
    | ex c' g' => exact x1sM_noex e
    | bad => rw [e] at h; cases h
    | ok d =>
      rw [e, M.bind_ok] at h
      unfold mkLst at h
      split at h <;> cases h
  | .tup xs, h => by
    unfold xhM at h
    cases e : x1sM k ns fs xs with
    | ex c' g' => exact x1sM_noex e
    | bad => rw [e] at h; cases h
    | ok d =>
      rw [e, M.bind_ok] at h
      unfold mkTup at h
      split at h <;> cases h
  | .eq _, h => by cases h
  | .ifk i h1 g1, h => by
    unfold xhM at h
    split at h
    · exact xhM_noex h
    · exact xhM_noex h
def trX1 (n kn : Str) : Expr → Option X1
  | .Call (.Name f _) [.Name x _] [] _ => if f = kn ∧ x = n then some .kd else none
  | .Attribute (.Name x _) f _ => if x = n then some (.fld f) else none
  | .Constant (.int i) _ _ => some (.int i)
  | .UnaryOp .USub (.Constant (.int i) _ _) _ => some (.int (-i))
  | _ => none
def trX1s (n kn : Str) : List Expr → Option (List X1)
  | [] => some []
  | e :: es => do
    let x ← trX1 n kn e
    let xs ← trX1s n kn es
    some (x :: xs)
def isK : X1 → Bool
  | .kd => true
  | _ => false
def stepH (r : List Stmt → Option XH) (n kn : Str) : List Stmt → Option XH
  | [.Return (some (.List es _)) _] => (trX1s n kn es).map .lst
  | [.Return (some (.Tuple es _ _)) _] => (trX1s n kn es).map .tup
  | [.Return (some (.Compare a [.Eq] [.Constant (.int i) _ _] _)) _] => (trX1 n kn a).bind fun x => if isK x = true then some (.eq i) else none
  | [.Return (some e) _] => (trX1 n kn e).map .one
  | .If (.Compare a [.Eq] [.Constant (.int i) _ _] _) sts [] _ :: rest => do
    let x ← trX1 n kn a
    let h ← r sts
    let g ← r rest
    if isK x = true then some (.ifk i h g) else none
  | _ => none
def trH (n kn : Str) : Nat → List Stmt → Option XH
  | 0, _ => none
  | m + 1, sts => stepH (trH n kn m) n kn sts
/-- the suite's context -/
structure SuX (X : Cx) (e : Er) (pn : List (Addr × Obj)) (n kn : Str) (i : Nat) (k : Int) (ns : List Str) (j : Nat) : Prop where
  N : X.N[i]? = some n
  v : Vis X.env.scope n
  nn : nm n = true
  nk : nm kn = true
  gk : Gl X kn
  ok : e.Ok
  xf : XfC X.K e.C
  no : ∀ f ∈ ns, PySem.W.findIn X.K (.ref e.C) f = some none
  room : L2H.RoomH j X.A
  fn : ∃ f fd x, X.mg kn = some (.ref f) ∧ PySem.W.keepIn X.K (.ref f) = true ∧ Binds X.K fd [x] [] ∧ FnK X.prog X.w X.K X.mg X.base j f fd x e (spKd e k)
section
variable {X : Cx} {e : Er} {pn : List (Addr × Obj)} {n kn : Str} {i j : Nat} {k : Int} {ns : List Str}
theorem SuX.rm (h : SuX X e pn n kn i k ns j) : L2H.RoomH j (X.suite e.a ((e.a, e.o) :: pn)).A := ⟨h.room.dp, h.room.un⟩
/-- the slot still holds it, its fields stand -/
def SuS (K : Fg) (e : Er) (i : Nat) (fs : List (Str × D)) (F : Hp) (σ : St) (H : Hp) : Prop := σ[i]? = some (some (.ref e.a)) ∧ Sub F H ∧ XF K F H e fs
theorem x1_ok (h : SuX X e pn n kn i k ns j) {a : Expr} {x : X1} (q : trX1 n kn a = some x) :
    PE (X.suite e.a ((e.a, e.o) :: pn)) a (fun σ H Q => ∃ F fs, SuS X.K e i fs F σ H ∧ ∃ d, x1M k ns fs x = .ok d ∧ ∀ v H', Sub H H' → DV X.K F v d → Q v H') ∧ ∀ z p, a ≠ .Starred z p := by
  unfold trX1 at q
  split at q
  · split at q
    case isFalse => cases q
    rename_i z
    cases q
    obtain ⟨rfl, rfl⟩ := z
    obtain ⟨f, fd, y, gm, kp, bd, F⟩ := h.fn
    refine ⟨PE.imp (pe_callK (X := X.suite e.a ((e.a, e.o) :: pn)) F List.mem_cons_self h.rm h.gk gm kp bd h.N h.v h.nk h.nn) fun σ H Q ⟨F, fs, ⟨h1, h2, h3⟩, d, hd, hq⟩ => ?_, fun z p q => by cases q⟩
    cases hd
    exact ⟨h1, h3.at, fun H' s => hq _ H' s (.int k)⟩
  · rename_i x' p1 f p2
    split at q
    case isFalse => cases q
    rename_i z
    cases q
    subst z
    refine ⟨?_, fun z p q => by cases q⟩
    by_cases hf : f ∈ ns
    · refine PE.imp (pe_xf (X := X) (pn := pn) h.xf (h.no f hf) h.ok.zc h.ok.fl (pe_var (i := i) h.N h.v (nm_d h.nn).1 (nm_d h.nn).2)) fun σ H Q ⟨F, fs, ⟨h1, h2, h3⟩, d, hd, hq⟩ => ?_
      have hd : (if f ∈ ns then M.ofO (fs.lookup f) else .bad) = .ok d := hd
      rw [if_pos hf] at hd
      cases hl : fs.lookup f with
      | none => rw [hl] at hd; cases hd
      | some d' =>
        rw [hl] at hd
        cases hd
        rcases h3 with ⟨rfl, _⟩ | ⟨dd, fv, a, b, c, z⟩
        · cases hl
        · obtain ⟨v, l, dv⟩ := look_dv c z hl
          exact ⟨_, h1, rfl, rfl, dd, fv, v, a, b, l, hq v H (Sub.refl _) dv⟩
    · refine ⟨fun pins s σ H Q I ⟨F, fs, _, d, hd, _⟩ => ?_⟩
      have hd : (if f ∈ ns then M.ofO (fs.lookup f) else .bad) = .ok d := hd
      rw [if_neg hf] at hd
      cases hd
  · cases q
    refine ⟨PE.imp pe_int fun σ H Q ⟨F, fs, ⟨h1, h2, h3⟩, d, hd, hq⟩ => ?_, fun z p q => by cases q⟩
    cases hd
    exact hq _ H (Sub.refl _) (.int _)
  · cases q
    refine ⟨PE.imp (pe_un un_neg pe_int) fun σ H Q ⟨F, fs, ⟨h1, h2, h3⟩, d, hd, hq⟩ => ?_, fun z p q => by cases q⟩
    cases hd
    exact ⟨_, rfl, hq _ H (Sub.refl _) (.int _)⟩
  · cases q
theorem x1s_ok (h : SuX X e pn n kn i k ns j) : ∀ {as : List Expr} {xs : List X1}, trX1s n kn as = some xs →
    PA (X.suite e.a ((e.a, e.o) :: pn)) as (fun σ H Q => ∃ F fs, SuS X.K e i fs F σ H ∧ ∃ ds, x1sM k ns fs xs = .ok ds ∧ ∀ vs H', Sub H H' → DVs X.K F vs ds → Q vs H')
  | [], xs, q => by
    cases q
    exact PA.imp pa_nil fun σ H Q ⟨F, fs, _, ds, hd, hq⟩ => by cases hd; exact hq [] H (Sub.refl _) .nil
  | a :: as, xs, q => by
    unfold trX1s at q
    simp only [Option.bind_eq_bind, Option.bind_eq_some_iff] at q
    obtain ⟨x, q1, xs', q2, q3⟩ := q
    cases q3
    obtain ⟨p1, p2⟩ := x1_ok h q1
    refine PA.imp (pa_cons p1 (x1s_ok h q2) (star_cons p2 _ _)) fun σ H Q ⟨F, fs, ⟨h1, h2, h3⟩, ds, hd, hq⟩ => ?_
    obtain ⟨d, e1, hd⟩ := M.bind_eq_ok hd
    obtain ⟨ds', e2, hd⟩ := M.bind_eq_ok hd
    cases hd
    exact ⟨F, fs, ⟨h1, h2, h3⟩, d, e1, fun v H1 s1 dv => ⟨F, fs, ⟨h1, h2.trans s1, h3.mono s1⟩, ds', e2, fun vs H2 s2 dvs => hq _ H2 (s1.trans s2) (.cons dv dvs)⟩⟩
def tSu (X : Cx) (e : Er) (i : Nat) (k : Int) (ns : List Str) (h : XH) : TS := fun D σ H => ∃ F fs, SuS X.K e i fs F σ H ∧ ∃ d, xhM k ns fs h = .ok d ∧ ∀ v F' H', Grow F H F' H' → DV X.K F' v d → D.rt v H'
theorem trH_ok (hS : SuX X e pn n kn i k ns j) : ∀ (m : Nat) {sts : List Stmt} {h : XH}, trH n kn m sts = some h → PSs (X.suite e.a ((e.a, e.o) :: pn)) sts (tSu X e i k ns h)
  | 0, sts, h, q => by unfold trH at q; cases q
  | m + 1, sts, h, q => by
    unfold trH stepH at q
    split at q
    · rename_i es p1 p2
      rw [Option.map_eq_some_iff] at q
      obtain ⟨xs, q1, rfl⟩ := q
      refine PSs.imp (pss_one (ps_ret (pe_lst (x1s_ok hS q1)))) fun D σ H ⟨F, fs, ⟨h1, h2, h3⟩, d, hd, hq⟩ => ?_
      obtain ⟨ds, e1, e2⟩ := M.bind_eq_ok hd
      refine ⟨F, fs, ⟨h1, h2, h3⟩, ds, e1, fun vs H' s dvs => ?_⟩
      unfold mkLst at e2
      split at e2
      case isFalse => cases e2
      rename_i hl
      cases e2
      refine ⟨by rw [dvs.length, ← line_eq]; exact hl, fun p hp => ?_⟩
      have g1 : Grow F H F H' := ⟨Sub.refl _, s, h2.trans s, fun _ z => .inl z, fun _ _ _ z => z⟩
      exact hq _ _ _ (g1.trans (Grow.laid g1.fh hp)) (.lst (.inl (.inl upd_same)) (dvs.mono (sub_upd (g1.fh.none hp))))
    · rename_i es kk p1 p2
      rw [Option.map_eq_some_iff] at q
      obtain ⟨xs, q1, rfl⟩ := q
      refine PSs.imp (pss_one (ps_ret (pe_tup (x1s_ok hS q1)))) fun D σ H ⟨F, fs, ⟨h1, h2, h3⟩, d, hd, hq⟩ => ?_
      obtain ⟨ds, e1, e2⟩ := M.bind_eq_ok hd
      refine ⟨F, fs, ⟨h1, h2, h3⟩, ds, e1, fun vs H' s dvs => ?_⟩
      unfold mkTup at e2
      split at e2
      case isFalse => cases e2
      rename_i hl
      cases e2
      refine ⟨by rw [dvs.length, ← line_eq]; exact hl, fun p hp => ?_⟩
      have g1 : Grow F H F H' := ⟨Sub.refl _, s, h2.trans s, fun _ z => .inl z, fun _ _ _ z => z⟩
      exact hq _ _ _ (g1.trans (Grow.laid g1.fh hp)) (.tup (.inl (.inl upd_same)) (dvs.mono (sub_upd (g1.fh.none hp))))
    · rename_i a c k2 p1 p2 p3
      rw [Option.bind_eq_some_iff] at q
      obtain ⟨x, q1, q2⟩ := q
      split at q2
      case isFalse => cases q2
      rename_i hk
      cases q2
      cases x <;> first | (cases hk; done) | skip
      refine PSs.imp (pss_one (ps_ret (pe_cmpR op_eq (x1_ok hS q1).1 pe_int rfl))) fun D σ H ⟨F, fs, ⟨h1, h2, h3⟩, d, hd, hq⟩ => ?_
      cases hd
      refine ⟨F, fs, ⟨h1, h2, h3⟩, .int k, rfl, fun v H' s dv => ?_⟩
      cases dv.int_inv
      refine ⟨rfl, ?_⟩
      have g1 : Grow F H F H' := ⟨Sub.refl _, s, h2.trans s, fun _ z => .inl z, fun _ _ _ z => z⟩
      have e1 : decide (V.int k = V.int c) = decide (k = c) := by by_cases z : k = c <;> simp [z]
      rw [e1]
      exact hq _ _ _ g1 (.bool _)
    · rename_i a p1
      rw [Option.map_eq_some_iff] at q
      obtain ⟨x, q1, rfl⟩ := q
      refine PSs.imp (pss_one (ps_ret (x1_ok hS q1).1)) fun D σ H ⟨F, fs, ⟨h1, h2, h3⟩, d, hd, hq⟩ => ?_
      exact ⟨F, fs, ⟨h1, h2, h3⟩, d, hd, fun v H' s dv => hq v F H' ⟨Sub.refl _, s, h2.trans s, fun _ z => .inl z, fun _ _ _ z => z⟩ dv⟩
    · rename_i a c k2 p1 p2 sts' p3 rest
      simp only [Option.bind_eq_bind, Option.bind_eq_some_iff] at q
      obtain ⟨x, q1, hh, q2, g, q3, q4⟩ := q
      split at q4
      case isFalse => cases q4
      rename_i hk
      cases q4
      cases x <;> first | (cases hk; done) | skip
      refine PSs.imp (pss_cons (ps_if (pt_cmpR op_eq (x1_ok hS q1).1 pe_int rfl) (trH_ok hS m q2) pss_nil) (trH_ok hS m q3)) fun D σ H ⟨F, fs, ⟨h1, h2, h3⟩, d, hd, hq⟩ => ?_
      refine ⟨F, fs, ⟨h1, h2, h3⟩, .int k, rfl, fun v H' s dv => ?_⟩
      cases dv.int_inv
      refine ⟨rfl, _, rfl, ?_⟩
      have g1 : Grow F H F H' := ⟨Sub.refl _, s, h2.trans s, fun _ z => .inl z, fun _ _ _ z => z⟩
      have e1 : decide (V.int k = V.int c) = decide (k = c) := by by_cases z : k = c <;> simp [z]
      have hd : (if k = c then xhM k ns fs hh else xhM k ns fs g) = .ok d := hd
      rw [e1]
      by_cases z : k = c
      · rw [if_pos z] at hd
        rw [decide_eq_true z]
        show (if true = true then _ else _)
        rw [if_pos rfl]
        exact ⟨F, fs, ⟨h1, h2.trans s, h3.mono s⟩, d, hd, fun v F' H2 g2 dv => hq v F' H2 (g1.trans g2) dv⟩
      · rw [if_neg z] at hd
        rw [decide_eq_false z]
        show (if false = true then _ else _)
        rw [if_neg Bool.false_ne_true]
        exact ⟨F, fs, ⟨h1, h2.trans s, h3.mono s⟩, d, hd, fun v F' H2 g2 dv => hq v F' H2 (g1.trans g2) dv⟩
    · cases q
end
end DL

/-! DMore: tuple(range(n)), list(range(n)), len(set(t)), t.index(i), xs.insert(i, e). -/
namespace DL
open PySem PySem.Spec PyProof.Rows L2
section
variable {X : Cx} {W : WX} {pos : Pos} {k : Nat} {K : Fg} {F : Hp}
theorem rgV_rng (n : Nat) : DVs K F (rgV 0 (n : Int)) (rng 0 n) := by
  have e : rng 0 n = ((List.range n).map fun (i : Nat) => PyData.int (0 + (i : Int))) := by
    have gen : ∀ (n : Nat) (lo : Int), rng lo n = ((List.range n).map fun (i : Nat) => PyData.int (lo + (i : Int))) := by
      intro n
      induction n with
      | zero => intro lo; rfl
      | succ n ih =>
        intro lo
        rw [rng, ih (lo + 1), List.range_succ_eq_map, List.map_cons, List.map_map]
        have e0 : lo + ((0 : Nat) : Int) = lo := by simp
        rw [e0]
        refine congrArg (PyData.int lo :: ·) (List.map_congr_left fun i _ => ?_)
        show PyData.int (lo + 1 + (i : Int)) = PyData.int (lo + ((i + 1 : Nat) : Int))
        congr 1
        push_cast
        omega
    exact gen n 0
  have e2 : rgV 0 (n : Int) = ((List.range n).map fun (i : Nat) => (0 + (i : Int))).map V.int := by
    unfold rgV
    rw [List.map_map]
    have : ((n : Int) - 0).toNat = n := by omega
    rw [this]
    rfl
  rw [e, e2]
  have e3 : ((List.range n).map fun (i : Nat) => PyData.int (0 + (i : Int))) = ((List.range n).map fun (i : Nat) => (0 + (i : Int))).map PyData.int := by rw [List.map_map]; rfl
  rw [e3]
  exact DVs.of_ints _
theorem res_int {F' H' H : Hp} {v : V} {i : Int} (r : Res k K F' H' H v (.int i)) : v = .int i := by
  rcases r.bv with h | ⟨_, _, _, h⟩
  · exact h.int_inv
  · exact h.elim
theorem s_trng {a : Expr} {p p2 q : Pos} {ka : Nat} {fa : Rho → M D} (hc : X.calm = true) (ha : PE X a (TE' X W ka fa)) (ns : ∀ x p, a ≠ .Starred x p) (g1 : Gl X "tuple") (m1 : X.mg "tuple" = none) (g2 : Gl X "range") (m2 : X.mg "range" = none) :
    PE X (.Call (.Name "tuple" p) [.Call (.Name "range" p2) [a] [] q] [] pos) (TE' X W 1 fun ρ => (fa ρ).bind fun x => bltD .trng [x]) := by
  refine PE.imp (pe_tupRg hc g1 m1 (prg_1 g2 m2 ha (star_cons ns _ _)) (star_cons (by intro _ _ z; cases z) _ _)) fun σ H Q ⟨F0, H0, F, ρ, r, p⟩ => ⟨F0, H0, F, ρ, r, PostE.seq p fun d v F1 H1 g r1 p1 => ?_⟩
  cases d <;> first | exact (show False from p1).elim | skip
  rename_i n
  have p1 : PostE X W F1 H1 σ 1 (if 0 ≤ n ∧ n ≤ 16777216 then .ok (.tuple (rng 0 n.toNat)) else .bad) Q := p1
  split at p1
  case isFalse => exact p1.elim
  rename_i hn
  refine ⟨n, res_int r1, RgOk.of_le (Int.le_refl _) hn.2 (by decide) hn.1, fun q hq => ?_⟩
  obtain ⟨m, rfl⟩ := Int.eq_ofNat_of_zero_le hn.1
  exact PostV.newTup (K := X.K) (k := 1) p1 g.fh (rgV_rng m) hq
theorem s_lrng {a : Expr} {p p2 q : Pos} {ka : Nat} {fa : Rho → M D} (hc : X.calm = true) (ha : PE X a (TE' X W ka fa)) (ns : ∀ x p, a ≠ .Starred x p) (g1 : Gl X "list") (m1 : X.mg "list" = none) (g2 : Gl X "range") (m2 : X.mg "range" = none) :
    PE X (.Call (.Name "list" p) [.Call (.Name "range" p2) [a] [] q] [] pos) (TE' X W 1 fun ρ => (fa ρ).bind fun x => bltD .lrng [x]) := by
  refine PE.imp (pe_listRg hc g1 m1 (prg_1 g2 m2 ha (star_cons ns _ _)) (star_cons (by intro _ _ z; cases z) _ _)) fun σ H Q ⟨F0, H0, F, ρ, r, p⟩ => ⟨F0, H0, F, ρ, r, PostE.seq p fun d v F1 H1 g r1 p1 => ?_⟩
  cases d <;> first | exact (show False from p1).elim | skip
  rename_i n
  have p1 : PostE X W F1 H1 σ 1 (if 0 ≤ n ∧ n ≤ 16777216 then .ok (.list (rng 0 n.toNat)) else .bad) Q := p1
  split at p1
  case isFalse => exact p1.elim
  rename_i hn
  refine ⟨n, res_int r1, RgOk.of_le (Int.le_refl _) hn.2 (by decide) hn.1, fun q hq => ?_⟩
  obtain ⟨m, rfl⟩ := Int.eq_ofNat_of_zero_le hn.1
  exact PostV.newLst (K := X.K) p1 g.fh (rgV_rng m) hq
/-- len(set(t)), t a tuple of unlike ints -/
theorem setR_many {w : World} {h : Heap} {a : Addr} {ns : List Int} {c : Nat} (R : SetR w h a (fun j => decide (j ∈ ns)) c) (nd : ns.Nodup) (hc : c ≤ ns.length) : c = ns.length := by
  obtain ⟨o, es, ep, t, _, _, _, _, nk, mem, _, _, hn, _, _⟩ := R
  have sub : ns ⊆ es.toList.map keyOf := fun k hk => (mem k).mp (decide_eq_true hk)
  have l1 := nd.length_le_of_subset sub
  rw [List.length_map] at l1
  have l2 : es.toList.length = es.size := Array.length_toList
  omega
theorem s_lset {a : Expr} {p p2 q : Pos} {ka : Nat} {fa : Rho → M D} (hc : X.calm = true) (ha : PE X a (TE' X W ka fa)) (ns : ∀ x p, a ≠ .Starred x p) (g1 : Gl X "len") (m1 : X.mg "len" = none) (g2 : Gl X "set") (m2 : X.mg "set" = none) :
    PE X (.Call (.Name "len" p) [.Call (.Name "set" p2) [a] [] q] [] pos) (TE' X W 1 fun ρ => (fa ρ).bind fun x => bltD .lset [x]) := by
  have core : PE X (.Call (.Name "len" p) [.Call (.Name "set" p2) [a] [] q] [] pos) (fun σ H Q => TE' X W ka fa σ H fun x H1 => ∃ (l : Addr) (ns : List Int), x = .ref l ∧ SqT X.K H1 l (ns.map V.int) ∧ ns.Nodup ∧ ns.length < 1000 ∧ Q (.int (ns.length : Nat)) H1) := by
    refine ⟨fun pins s σ H Q I hq => ?_⟩
    have na := star_cons ns [] X.env
    refine Call_ (ld_blt I g1 m1 PySem.boot_len ?_)
    refine PyProof.Rows.callWith_builtin1 (PyProof.Rows.args_cons ?_ (star_cons (by intro _ _ z; cases z) _ _)) (star_cons (by intro _ _ z; cases z) _ _) rfl
    refine Call_ (ld_blt I g2 m2 PyProof.Rows.boot_set ?_)
    refine PyProof.Rows.callWith_type1 (PyProof.Rows.args_cons (thn (ha.run pins s σ H _ I hq) fun v s1 ⟨x, H1, I1, r1, q1⟩ => PyProof.Rows.args_nil ?_) na) na rfl
    obtain ⟨l, ks, rfl, hs, nd, hl, q1⟩ := q1
    cases r1
    obtain ⟨its, rv, pl, hz⟩ := I1.tuple hs
    refine call_set_tupI ks (I1.ok.hd hc) pl (by simpa using rv.ints) (by unfold scanBound; omega) fun h' tk c hS hle hk => ?_
    have e := setR_many hS nd hle
    refine PyProof.Rows.args_nil ?_
    obtain ⟨o, es, ep, t, ho, hex, hd, _, _, _, _, hf, hn, _⟩ := hS
    have I2 : Inv X pins σ H1 { s1 with heap := h', toks := tk } := I1.kept hk
    refine call_len_set ho hex hd hf (by rw [hn] <;> omega) ⟨.int ks.length, H1, I2.tok _, ⟨_, by rw [hn, e]⟩, q1⟩
  refine PE.imp core fun σ H Q ⟨F0, H0, F, ρ, r, p⟩ => ⟨F0, H0, F, ρ, r, PostE.seq p fun d v F1 H1 g r1 p1 => ?_⟩
  cases d <;> first | exact (show False from p1).elim | skip
  rename_i xs
  have p1 : PostE X W F1 H1 σ 1 ((M.ofO (intsD xs)).bind fun ns => if ns.Nodup ∧ ns.length < 1000 then .ok (.int ns.length) else .bad) Q := p1
  cases e : intsD xs with
  | none => rw [e] at p1; exact p1.elim
  | some ks =>
    rw [e] at p1
    have p1 : PostE X W F1 H1 σ 1 (if ks.Nodup ∧ ks.length < 1000 then .ok (.int ks.length) else .bad) Q := p1
    split at p1
    case isFalse => exact p1.elim
    rename_i hn
    obtain ⟨a, us, rfl, t, hc⟩ := items_inv r1.bv g.fh (show items (.tuple xs) = some xs from rfl)
    rcases hc with ⟨z, _⟩ | ⟨_, h1, _⟩
    · cases z
    · have := t.ints e
      subst this
      exact ⟨a, ks, rfl, h1, hn.1, hn.2, p1.flat g.fh (.int _) rfl⟩
end
end DL

/-! DTxt: enumerate(xs, start=k), texts: join, split, f-strings. -/
namespace DL
open PySem PySem.Spec PyProof.Rows L2
/-! ### enumerate(list, start=c) -/
def IteK (K : PySem.W.Frag) (c : Int) (a : Addr) : L2.It :=
  ⟨fun i H => ∃ (xs : List V) (x : V), SqL K H a xs ∧ xs[i]? = some x, fun i H v H' => ∃ T x, v = .ref T ∧ H T = none ∧ H' = upd H T (.tup [.int (c + (i : Nat)), x]) ∧ ∀ xs, SqL K H a xs → xs[i]? = some x, fun i H => ∃ xs : List V, SqL K H a xs ∧ xs.length = i⟩
theorem turn_enumK {P : Program} {w : World} {K : PySem.W.Frag} {elts : List Expr} {kk : Nat} {tpos : Pos} {c : Int} (a e it : Addr) (ha : a ≠ it) (hea : e ≠ a) :
    Turn P w K (.Tuple elts kk tpos) (IteK K c a) [e, it] e (fun i h => (∃ old, IsEnum h e it (c + ((i : Nat) : Int)) old) ∧ h.IsListIter it a i ∧ e ≠ it) where
  mem := by simp
  obj := fun i h st b hb => by
    obtain ⟨⟨old, he⟩, ⟨o, ho, hc, hd⟩, _⟩ := st
    have e' : b = e ∨ b = it := by simpa using hb
    rcases e' with z | z
    · rw [z]; exact ⟨_, he, fun v q => nomatch q⟩
    · rw [z]; exact ⟨o, ho, fun v q => by rw [hd] at q; cases q⟩
  keep := fun i h h' st k => let ⟨⟨old, he⟩, hi, hne⟩ := st; ⟨⟨old, k e (by simp) _ he⟩, hi.at fun o q => k it (by simp) o q, hne⟩
  item := by
    intro X hP hw hK hc i pins s σ H E I hf st hg
    subst hP hw hK
    obtain ⟨⟨old, he⟩, hit, hne⟩ := st
    obtain ⟨xs, x, hq, hx⟩ := hg
    obtain ⟨its, rv, p, hz⟩ := I.list hq
    obtain ⟨u, hu, ru⟩ := rv.get hx
    have hel : e < s.heap.objs.size := Heap.lt_size he
    have hil : it < s.heap.objs.size := by obtain ⟨_, q, _⟩ := hit; exact Heap.lt_size q
    have hlt : i < its.toArray.size := by
      have := List.getElem?_eq_some_iff.mp hu
      obtain ⟨q, _⟩ := this
      simpa using q
    refine wpAny_pyNext_enum_itemC (Draws.list (prog := X.prog) (w := X.w) (A := X.A.in1) (show X.A.in1.handled = none from I.ok.hd hc) it a ha its.toArray) he ⟨hit, p.isList⟩ hlt hne (by simp [hne, hea]) fun x' h' tk hxi ho hit' hT hsz hk => ?_
    have hxi : its.toArray[i]? = some x' := hxi
    have ex : x' = u := by
      rw [show its.toArray[i]? = some u by simpa using hu] at hxi
      exact (Option.some.inj hxi).symm
    subst ex
    refine ⟨_, rfl, wpAny_letOwnedTupleGo_enum (s := { s with heap := h', toks := tk + 1 }) ho fun h'' he' sb => ?_⟩
    have hT2 : h''.get? s.heap.objs.size = some { cls := .type "tuple", data := .seq #[.int (c + (i : Nat)) tk, x'] } := (sb.2 _ (Nat.ne_of_gt hel)).trans hT
    have new : ObjOk X.prog X.w (upd H s.heap.objs.size (.tup [.int (c + (i : Nat)), x])) h'' s.heap.objs.size (.tup [.int (c + (i : Nat)), x]) :=
      ⟨by show 2 ≤ sizeLine; decide, [.int (c + (i : Nat)) tk, x'], .cons ⟨_, rfl⟩ (.cons ru .nil), ⟨_, hT2, rfl, _, rfl⟩⟩
    have I1 : Inv X pins σ (upd H s.heap.objs.size (.tup [.int (c + (i : Nat)), x])) { s with heap := h'', toks := tk + 1 } :=
      I.turnedNew (ch := [e, it]) (fun b ob hb q => (sb.2 b (fun z => hb (by simp [z]))).trans (hk b ob (fun z => hb (by simp [z])) (fun z => hb (by simp [z])) q)) hf (Nat.le_refl _) new
    refine ⟨.ref s.heap.objs.size, _, I1, rfl, ⟨_, x, rfl, I.hok.fresh (Nat.le_refl _), rfl, fun ys hy => by rw [I.list_inj hy hq]; exact hx⟩, ⟨⟨x', ?_⟩, hit'.1.at fun o q => (sb.2 it (Ne.symm hne)).trans q, hne⟩, fun b hb => ?_⟩
    · have e1 : c + ((i + 1 : Nat) : Int) = c + (i : Int) + 1 := by omega
      rw [e1]; exact he'
    · have hb' : b < s.heap.objs.size := by
        have e' : b = e ∨ b = it := by simpa using hb
        rcases e' with z | z
        · rw [z]; exact hel
        · rw [z]; exact hil
      rw [upd_ne (Nat.ne_of_lt hb')]
      exact (hf b hb).1
  done := by
    intro X hP hw hK hc i pins s σ H E I hf st hg
    subst hP hw hK
    obtain ⟨⟨old, he⟩, hit, hne⟩ := st
    obtain ⟨xs, hq, hx⟩ := hg
    obtain ⟨its, rv, p, hz⟩ := I.list hq
    obtain ⟨f0, f1, f2, f3, f4, f5⟩ := hf it (by simp)
    have hl := rv.length
    have D := Draws.list (prog := X.prog) (w := X.w) (A := X.A.in1) (show X.A.in1.handled = none from I.ok.hd hc) it a ha its.toArray
    have en : i = its.toArray.size := by rw [List.size_toArray]; omega
    exact wpAny_pyNext_enum_endD D he (by rw [← en]; exact ⟨hit, p.isList⟩) fun h' eb => ⟨rfl, I.turned (t' := s.toks) (fun b o hb q => eb b o hb q) f0 f1 f3 f4 f5⟩
  self := fun A i s Q E st h => let ⟨⟨_, he⟩, _⟩ := st; wpAny_pyIter_enum he h
def iEnumK (K : PySem.W.Frag) (c : Int) (ta : TA) : TI := fun σ H R => ta σ H fun vs H1 => ∃ a, vs = [.ref a] ∧ (∃ xs, SqL K H1 a xs) ∧ R (IteK K c a) H1
theorem callWith_typeKw {M : Model} {A : Around} {E : Value → Shared → Prop} {s : Shared} {pos : Pos} {T : String} {args : List (Bool × Sem Value)} {kws : List (Option Str × Sem Value)} {Q : Value → Shared → Prop}
    (h0 : (args.any fun x => x.fst) = false) (h1 : (kws.any fun x => x.fst.isNone) = false) (h : wpAny M A (evalArgs (.type T) true args kws) (fun a s₁ => wpAny M A (call (.type T) a.pos a.kw) Q E s₁) E s) :
    wpAny M A (callWith pos (.type T) [] args kws) Q E s := by
  unfold callWith
  refine wpAny_bind (wpAny_holding (thn h fun a s1 q => ?_))
  refine wpAny_bind (wpAny_standAt ?_)
  simp only [h0, h1, Bool.or_false]
  refine wpAny_bind (wpAny_pure ?_)
  exact wpAny_bind (thn q fun r s2 q2 => wpAny_bind (wpAny_holding (wpAny_point (wpAny_pure q2))))
set_option maxHeartbeats 1000000 in
theorem pi_enumK {X : Cx} {e : Expr} {ta : TA} {p pos tpos p2 p3 : Pos} {k3 kk : Nat} {elts : List Expr} {c : Int} (hg : Gl X "enumerate") (hm : X.mg "enumerate" = none) (hlo : -2 ^ 63 ≤ c) (hhi : c < 2 ^ 63) (ha : PA X [e] ta) (hs : starEach [e] X.env = [(false, eval e X.env)] := by rfl) :
    PI X (.Tuple elts kk tpos) (.Call (.Name "enumerate" p) [e] [⟨some "start", .Constant (.int c) k3 p2, p3⟩] pos) (iEnumK X.K c ta) := by
  refine ⟨fun pins s σ H R I h => ?_⟩
  have ekw : backToKw pos (keywordEach [⟨some ("start" : Str), .Constant (.int c) k3 p2, p3⟩] X.env) = [(some ("start" : Str), do let v ← eval (.Constant (.int c) k3 p2) X.env; standAt pos; pure v)] := rfl
  have ear : backTo pos (starEach [e] X.env) = [(false, eval e X.env)] := by rw [hs]; rfl
  refine wpAny_Call_Name_kw (ld_blt I hg hm boot_enumerate ?_)
  refine callWith_typeKw (by rw [ear]; rfl) (by rw [ekw]; rfl) ?_
  have run := ha.run pos pins s σ H _ I h
  rw [ear] at run ⊢
  refine evalArgs_kw (by rw [ekw]; rfl) (thn run fun us s1 ⟨vs, H1, I1, r1, q1⟩ => ?_)
  rw [ekw]
  refine wpAny_evalAll_cons (wpAny_bind (thn ((pe_int (X := X) (i := c) (j := k3) (pos := p2)).run pins s1 σ H1 _ I1 (show (tC (V.int c)) σ H1 (fun v H2 => v = V.int c ∧ H2 = H1) from ⟨rfl, rfl⟩)) fun w s2 ⟨v, H2, I2, r2, e1, e2⟩ => wpAny_bind (wpAny_standAt (wpAny_pure (wpAny_evalAll_nil ?_)))))
  subst e1 e2
  obtain ⟨t, rfl⟩ := r2
  obtain ⟨a, ex, ⟨xs, hq⟩, q⟩ := q1
  subst ex
  cases r1 with
  | cons r rr =>
    cases rr
    cases r
    have fr : ∀ b, b ∈ [s2.heap.objs.size + 1, s2.heap.objs.size] → FpOk X pins H2 b := fun b hb => by
      have e' : b = s2.heap.objs.size + 1 ∨ b = s2.heap.objs.size := by simpa using hb
      have hle : s2.heap.objs.size ≤ b := by
        rcases e' with z | z
        · rw [z]; exact Nat.le_add_right _ _
        · rw [z]; exact Nat.le_refl _
      exact I2.fpOk hle (I2.hok.fresh hle)
    obtain ⟨its, rv, pl, hz⟩ := I2.list hq
    have hlt : a < s2.heap.objs.size := by
      obtain ⟨o, ho, _⟩ := pl.isList
      exact Heap.lt_size ho
    refine enum_begins_start (begins_list a its.toArray) pl.isList hlo hhi fun h' he hit hsz hk => wpAny_pyIter_enum he ?_
    have I3 : Inv X pins σ H2 { s2 with heap := h' } := I2.kept (t' := s2.toks) hk
    exact ⟨s2.heap.objs.size + 1, [s2.heap.objs.size + 1, s2.heap.objs.size], _, _, H2, rfl, I3, turn_enumK a (s2.heap.objs.size + 1) s2.heap.objs.size (Nat.ne_of_lt hlt) (fun z => absurd (Nat.lt_trans (Nat.lt_succ_self _) (z.symm ▸ hlt : s2.heap.objs.size + 1 < s2.heap.objs.size)) (Nat.lt_irrefl _)), ⟨⟨.none, by simpa using he⟩, ⟨_, hit, rfl, rfl⟩, Nat.succ_ne_self _⟩, fr, q⟩
section
variable {K : Fg} {F S F1 H1 H H' : Hp} {xs : List D} {a : Addr} {vs : List V}
theorem y_enumK {c : Int} (h : AtL K F S a vs) (t : DVs K F vs xs) : Ylds K F S (IteK K c a) (enumD c xs) where
  go := fun i x F1 H1 hx s1 s2 s3 => by
    obtain ⟨y, hy, rfl⟩ := enum_get hx
    obtain ⟨v, hv, dv⟩ := t.get hy
    refine ⟨⟨vs, v, h F1 H1 s1 s2 s3, hv⟩, fun u H2 ⟨T, w, e1, hT, e2, q⟩ => ?_⟩
    subst e1 e2
    have := q vs (h F1 H1 s1 s2 s3)
    rw [hv] at this
    cases this
    exact ⟨_, Grow.laid s3 hT, DV.pair s3 hT (.int _) (dv.mono s1)⟩
  stop := fun F1 H1 s1 s2 s3 => ⟨vs, h F1 H1 s1 s2 s3, by rw [t.length, enum_len]⟩
end
section
variable {X : Cx} {W : WX} {pos tpos p p2 p3 : Pos} {b : Bool} {k k1 : Nat}
theorem i_enumK {e : Expr} {elts : List Expr} {kk k3 : Nat} {c : Int} {f : Rho → M D} (hg : Gl X "enumerate") (hm : X.mg "enumerate" = none) (hk : b = true ∨ k = 0 ∨ k = 1) (h : PE X e (TE' X W k f)) (ns : ∀ x p, e ≠ .Starred x p) (hc : inR c = true) :
    PI X (.Tuple elts kk tpos) (.Call (.Name "enumerate" p) [e] [⟨some "start", .Constant (.int c) k3 p2, p3⟩] pos) (TI' X W b fun ρ => (f ρ).bind fun d => match d with
      | .list xs => if inR c = true then .ok (enumD c xs) else .bad
      | _ => .bad) := by
  have hr := inR_of hc
  refine PI.imp (pi_enumK hg hm (by omega) (by omega) (pa_cons h pa_nil (star_cons ns _ _)) (star_cons ns _ _)) fun σ H R ⟨F0, H0, F, ρ, r, q⟩ => ⟨F0, H0, F, ρ, r, PostI.seqE hk q fun d v F1 H1 g1 r1 q1 => ?_⟩
  cases d with
  | list xs =>
    have q1 : PostI X W F1 H1 σ b (if inR c = true then .ok (enumD c xs) else .bad) R := q1
    rw [if_pos hc] at q1
    obtain ⟨a, vs, ev, at', t⟩ := r1.list
    exact ⟨a, by rw [ev], ⟨vs, at' F1 H1 (Sub.refl _) sel_le g1.fh⟩, q1.fin g1.fh (y_enumK at' t)⟩
  | _ => exact (show False from q1).elim
/-! ### texts -/
theorem res_str {F' H' H : Hp} {K : Fg} {v : V} {x : Str} (r : Res k K F' H' H v (.str x)) : v = .str x := r.bv.str_inv
def okBase : Expr → Bool
  | .Constant (.str _) _ _ => true
  | .Name _ _ => true
  | _ => false
theorem base_ok {o : Expr} (h : okBase o = true) (m : Str) (env : Env) : attributeBase o m env (eval o env) = eval o env := by
  cases o <;> first | rfl | cases h
theorem seqEq {F H : Hp} {σ : St} {Q R : VK} {m : M D} {f : D → M D} (p : PostE X W F H σ k1 (m.bind f) Q)
    (h : ∀ d v F1 H1, Grow F H F1 H1 → Res k X.K F1 H1 H v d → PostE X W F1 H1 σ k1 (f d) Q → m = .ok d → R v H1) : PostE X W F H σ k m R := by
  cases m with
  | ok d => exact fun v F' H' g r => h d v F' H' g r (PostE.shift (m := f d) p g) rfl
  | ex c fs => exact p
  | bad => exact p
theorem s_join {o e : Expr} {apos cp : Pos} {fo fe : Rho → M D} (ho : PE X o (TE' X W k fo)) (he : PE X e (TE' X W k1 fe)) (hb : okBase o = true) (ns : ∀ x p, e ≠ .Starred x p) (hl : (apos.endLine == cp.line) = true) (hx : (∀ ρ d, fo ρ = .ok d → ∃ s, d = .str s) ∨ ∀ ρ, NoEx (fe ρ)) :
    PE X (.Call (.Attribute o "join" apos) [e] [] cp) (TE' X W 1 fun ρ => (fo ρ).bind fun x => (fe ρ).bind fun y => bltD .join [x, y]) := by
  refine PE.imp (pe_join ho he (star_cons ns _ _) (base_ok hb _ _) hl) fun σ H Q ⟨F0, H0, F, ρ, r, p⟩ => ⟨F0, H0, F, ρ, r, seqEq p fun d v F1 H1 g1 r1 p1 e0 => ?_⟩
  obtain ⟨a, rfl⟩ : ∃ a, d = .str a := by
    rcases hx with hx | hx
    · exact hx ρ d e0
    · cases z : fe ρ with
      | ok d2 => rw [z] at p1; cases d <;> first | exact ⟨_, rfl⟩ | exact (show False from p1).elim
      | ex c fs => exact (hx ρ c fs z).elim
      | bad => rw [z] at p1; exact (show False from p1).elim
  refine ⟨⟨a, res_str r1⟩, F0, H0, F1, ρ, r.grow g1, PostE.seq p1 fun d2 u F2 H2 g2 r2 p2 => ?_⟩
  have p2 : PostE X W F2 H2 σ 1 ((M.ofO ((items d2).bind strsD)).bind fun ys => if (ys.map (·.length)).sum + ys.length * a.length ≤ 16777216 ∧ PyData.strOk (Txt.join a ys) = true then .ok (.str (Txt.join a ys)) else .bad) Q := p2
  cases e1 : items d2 with
  | none => rw [e1] at p2; exact p2.elim
  | some xs =>
    cases e2 : strsD xs with
    | none => rw [e1, Option.bind_some, e2] at p2; exact p2.elim
    | some ys =>
      rw [e1, Option.bind_some, e2] at p2
      have p2 : PostE X W F2 H2 σ 1 (if (ys.map (·.length)).sum + ys.length * a.length ≤ 16777216 ∧ PyData.strOk (Txt.join a ys) = true then .ok (.str (Txt.join a ys)) else .bad) Q := p2
      split at p2
      case isFalse => exact p2.elim
      rename_i hz
      obtain ⟨q, us, rfl, t, hc⟩ := items_inv r2.bv g2.fh e1
      have := t.strs e2
      subst this
      refine ⟨a, q, ys, res_str r1, rfl, hc.elim (fun z => .inl z.2) (fun z => .inr z.2.1), hz.1, p2.flat g2.fh ⟨.str _, by rw [PyData.canLay0]; exact hz.2⟩ rfl⟩
theorem s_split {o e : Expr} {apos cp : Pos} {fo fe : Rho → M D} (ho : PE X o (TE' X W k fo)) (he : PE X e (TE' X W k1 fe)) (hb : okBase o = true) (ns : ∀ x p, e ≠ .Starred x p) (hl : (apos.endLine == cp.line) = true) (hx : (∀ ρ d, fo ρ = .ok d → ∃ s, d = .str s) ∨ ∀ ρ, NoEx (fe ρ)) :
    PE X (.Call (.Attribute o "split" apos) [e] [] cp) (TE' X W 1 fun ρ => (fo ρ).bind fun x => (fe ρ).bind fun y => bltD .split [x, y]) := by
  refine PE.imp (pe_split ho he (star_cons ns _ _) (base_ok hb _ _) hl) fun σ H Q ⟨F0, H0, F, ρ, r, p⟩ => ⟨F0, H0, F, ρ, r, seqEq p fun d v F1 H1 g1 r1 p1 e0 => ?_⟩
  obtain ⟨a, rfl⟩ : ∃ a, d = .str a := by
    rcases hx with hx | hx
    · exact hx ρ d e0
    · cases z : fe ρ with
      | ok d2 => rw [z] at p1; cases d <;> first | exact ⟨_, rfl⟩ | exact (show False from p1).elim
      | ex c fs => exact (hx ρ c fs z).elim
      | bad => rw [z] at p1; exact (show False from p1).elim
  refine ⟨⟨a, res_str r1⟩, F0, H0, F1, ρ, r.grow g1, PostE.seq p1 fun d2 u F2 H2 g2 r2 p2 => ?_⟩
  obtain ⟨y, rfl⟩ : ∃ y, d2 = .str y := by
    cases d2 <;> first | exact ⟨_, rfl⟩ | exact (show False from p2).elim
  have p2 : PostE X W F2 H2 σ 1 (if y.length ≠ 0 ∧ a.length + 2 ≤ line ∧ ((Txt.split a y).all PyData.strOk) = true then .ok (.list ((Txt.split a y).map .str)) else .bad) Q := p2
  split at p2
  case isFalse => exact p2.elim
  rename_i hz
  exact ⟨a, y, res_str r1, by rw [res_str r2], by simpa using hz.1, by rw [← line_eq]; exact hz.2.1, fun q hq => PostV.newLst (K := X.K) p2 g2.fh (DVs.of_strs _ hz.2.2) hq⟩
theorem s_fmt {e : Expr} {f : Rho → M D} (h : PE X e (TE' X W k f)) : PE X (.FormattedValue e (-1) none pos) (TE' X W 1 fun ρ => (f ρ).bind fun d => bltD .fmt [d]) := by
  refine PE.imp (pe_fmt h) fun σ H Q ⟨F0, H0, F, ρ, r, p⟩ => ⟨F0, H0, F, ρ, r, PostE.seq p fun d v F1 H1 g1 r1 p1 => ?_⟩
  cases d with
  | str x =>
    have p1 : PostE X W F1 H1 σ 1 (if x.length ≤ line then .ok (.str x) else .bad) Q := p1
    split at p1
    case isFalse => exact p1.elim
    rename_i hz
    have e1 := res_str r1
    subst e1
    exact .inl ⟨x, rfl, by rw [← line_eq]; exact hz, p1.flat g1.fh (r1.bv.dv rfl) rfl⟩
  | int i =>
    have p1 : PostE X W F1 H1 σ 1 (if i.natAbs.log2 < 1920 ∧ PyData.strOk (Str.ofString (toString i)) = true then .ok (.str (Str.ofString (toString i))) else .bad) Q := p1
    split at p1
    case isFalse => exact p1.elim
    rename_i hz
    exact .inr ⟨i, r1.bv.int_inv, hz.1, p1.flat g1.fh ⟨.str _, by rw [PyData.canLay0]; exact hz.2⟩ rfl⟩
  | _ => exact (show False from p1).elim
def tes (X : Cx) (W : WX) (G : Gm) : Es → List TE
  | .nil => []
  | .cons e es => TE' X W (fl e) (ev G e) :: tes X W G es
theorem strlen_append (x y : Str) : (x ++ y).length = x.length + y.length := Array.size_append
theorem catS_le : ∀ (ys : List Str) (acc : Str), acc.length ≤ (catS acc ys).length
  | [], _ => Nat.le_refl _
  | y :: ys, acc => Nat.le_trans (by rw [strlen_append]; omega) (catS_le ys (acc ++ y))
def catM (acc : Str) (m : M (List D)) : M D := m.bind fun ds => (M.ofO (strsD ds)).bind fun ys => if (catS acc ys).length ≤ line ∧ PyData.strOk (catS acc ys) = true then .ok (.str (catS acc ys)) else .bad
theorem cat_ok {G : Gm} {F0 H0 : Hp} {ρ : Rho} {σ : St} {Q : VK} : ∀ (es : Es) (acc : Str) (F H : Hp), NoEx (evs G es ρ) → Rel X.K F0 H0 F ρ σ H → PostE X W F H σ 1 (catM acc (evs G es ρ)) Q → tJs (tes X W G es) acc σ H fun out H1 => Q (.str out) H1
  | .nil, acc, F, H, _, r, p => by
    have p : PostE X W F H σ 1 (if acc.length ≤ line ∧ PyData.strOk acc = true then .ok (.str acc) else .bad) Q := p
    split at p
    case isFalse => exact p.elim
    rename_i hz
    exact p.flat r.sub ⟨.str _, by rw [PyData.canLay0]; exact hz.2⟩ rfl
  | .cons e es, acc, F, H, nx, r, p => by
    have ee : evs G (.cons e es) ρ = (ev G e ρ).bind fun d => (evs G es ρ).bind fun ds => .ok (d :: ds) := rfl
    rw [ee] at nx p
    show TE' X W (fl e) (ev G e) σ H fun x H1 => ∃ y, x = .str y ∧ (acc ++ y).length ≤ sizeLine ∧ tJs (tes X W G es) (acc ++ y) σ H1 fun out H1 => Q (.str out) H1
    refine ⟨F0, H0, F, ρ, r, ?_⟩
    cases e1 : ev G e ρ with
    | bad => rw [e1] at p; exact p.elim
    | ex c fs => rw [e1] at nx; exact (nx c fs rfl).elim
    | ok d =>
      rw [e1] at p nx
      have nx : NoEx ((evs G es ρ).bind fun ds => .ok (d :: ds)) := nx
      have p : PostE X W F H σ 1 (catM acc ((evs G es ρ).bind fun ds => .ok (d :: ds))) Q := p
      cases e2 : evs G es ρ with
      | bad => rw [e2] at p; exact p.elim
      | ex c fs => rw [e2] at nx; exact (nx c fs rfl).elim
      | ok ds =>
        rw [e2] at p
        have p : PostE X W F H σ 1 ((M.ofO (strsD (d :: ds))).bind fun ys => if (catS acc ys).length ≤ line ∧ PyData.strOk (catS acc ys) = true then .ok (.str (catS acc ys)) else .bad) Q := p
        intro v F1 H1 g1 r1
        cases d with
        | str y =>
          cases e3 : strsD ds with
          | none =>
            rw [show strsD (.str y :: ds) = (strsD ds).map (y :: ·) from rfl, e3] at p
            exact p.elim
          | some ys =>
            rw [show strsD (.str y :: ds) = (strsD ds).map (y :: ·) from rfl, e3] at p
            have p : PostE X W F H σ 1 (if (catS (acc ++ y) ys).length ≤ line ∧ PyData.strOk (catS (acc ++ y) ys) = true then .ok (.str (catS (acc ++ y) ys)) else .bad) Q := p
            have hz : (catS (acc ++ y) ys).length ≤ line := by
              split at p
              · rename_i hz; exact hz.1
              · exact p.elim
            refine ⟨y, res_str r1, by rw [← line_eq]; exact Nat.le_trans (catS_le ys _) hz, cat_ok es (acc ++ y) F1 H1 (by rw [e2]; exact noex_ok _) (r.grow g1) ?_⟩
            rw [e2]
            show PostE X W F1 H1 σ 1 ((M.ofO (strsD ds)).bind fun ys => if (catS (acc ++ y) ys).length ≤ line ∧ PyData.strOk (catS (acc ++ y) ys) = true then .ok (.str (catS (acc ++ y) ys)) else .bad) Q
            rw [e3]
            exact PostE.shift p g1
        | _ => exact (show False from p).elim
theorem s_fstr {G : Gm} {v1 v2 : Expr} {rest : List Expr} {es : Es} (h : PJ X (v1 :: v2 :: rest) (tes X W G es)) (nx : ∀ ρ, NoEx (evs G es ρ)) : PE X (.JoinedStr (v1 :: v2 :: rest) pos) (TE' X W 1 (ev G (.blt .cat es))) :=
  PE.imp (pe_joined h) fun σ H Q ⟨F0, H0, F, ρ, r, p⟩ => cat_ok es Str.empty F H (nx ρ) r (by
    have e : ev G (.blt .cat es) ρ = catM Str.empty (evs G es ρ) := by
      show (evs G es ρ).bind (fun ds => bltD .cat ds) = _
      unfold catM
      congr 1
    rw [e] at p; exact p)
def trP (r : Expr → Option E) : List Expr → Option Es
  | [] => some .nil
  | .Constant (.str s) _ _ :: es => if PyData.strOk s = true then (trP r es).map (.cons (.str s)) else none
  | .FormattedValue e c none _ :: es => match r e with
      | some (.var i) => if c = -1 then (trP r es).map (.cons (.blt .fmt (.cons (.var i) .nil))) else none
      | _ => none
  | _ => none
theorem noex_sh (ρ : Rho) (i : Nat) : NoEx (getSh ρ i) := by
  unfold getSh
  split
  · exact noex_ok _
  · exact noex_bad
theorem trP_ok {r : Expr → Option E} {G : Gm} (hr : ∀ e e', r e = some e' → PE X e (TE' X W (fl e') (ev G e'))) : ∀ {es : List Expr} {es' : Es}, trP r es = some es' → PJ X es (tes X W G es') ∧ ∀ ρ, NoEx (evs G es' ρ)
  | [], es', h => by cases h; exact ⟨.nil, fun ρ => noex_ok _⟩
  | e :: es, es', h => by
    unfold trP at h
    split at h
    · rename_i e0; cases e0
    · rename_i e0
      cases e0
      split at h
      case isFalse => cases h
      rename_i hs
      rw [Option.map_eq_some_iff] at h
      obtain ⟨es2, h1, rfl⟩ := h
      obtain ⟨a1, a2⟩ := trP_ok hr h1
      exact ⟨.cons (tri pe_str (fun F => ⟨.str _, by rw [PyData.canLay0]; exact hs⟩) rfl) a1, fun ρ => noex_bind (noex_ok _) fun d => noex_bind (a2 ρ) fun ds => noex_ok _⟩
    · rename_i e0
      cases e0
      split at h
      · rename_i i hi
        split at h
        case isFalse => cases h
        rename_i hc
        subst hc
        rw [Option.map_eq_some_iff] at h
        obtain ⟨es2, h1, rfl⟩ := h
        obtain ⟨a1, a2⟩ := trP_ok hr h1
        have q := s_fmt (pos := by assumption) (hr _ _ hi)
        have fe : (fun ρ => (ev G (.var i) ρ).bind fun d => bltD .fmt [d]) = ev G (.blt .fmt (.cons (.var i) .nil)) := by
          funext ρ
          show _ = ((ev G (.var i) ρ).bind fun d => (M.ok []).bind fun ds => .ok (d :: ds)).bind fun ds => bltD .fmt ds
          cases ev G (.var i) ρ <;> rfl
        rw [fe] at q
        refine ⟨.cons q a1, fun ρ => noex_bind ?_ fun d => noex_bind (a2 ρ) fun ds => noex_ok _⟩
        rw [← fe]
        exact noex_bind (noex_sh ρ i) fun d => noex_blt _ _
      · cases h
    · cases h
end
end DL

/-! DDic: sorted(dict(pairs)), the pairs' keys tuples of ints. -/
namespace DL
open PySem PySem.Spec PyProof.Rows L2
abbrev kdT (P : Program) (w : World) : HeapKind P w (List Int) := tupleKind (intKind P w)
def flipL (xs : List (List Int × Addr × Value)) : List (Addr × List Int) := xs.map fun x => (x.2.1, x.1)
section
variable {P : Program} {w : World} {A : Around} {E : Value → Shared → Prop} {s : Shared}
theorem sorted_dict {a : Addr} {xs : List (List Int × Addr × Value)} {Q : Value → Shared → Prop} (R : Heap.DictOfH (kdT P w) s.heap a xs) (hsys : (a == sysModules) = false) (hl : xs.length ≤ sizeLine) (hh : A.handled = none) (hu : A.units + 80 < cLine)
    (hQ : ∀ s' p (c : Nat), (∀ b o, s.heap.get? b = some o → s'.heap.get? b = some o) → s'.gens = s.gens → s'.os = s.os → s.heap.get? p = none →
      s'.heap.get? p = some (seqObj "list" (((flipL xs).mergeSort (PySem.W.dataLe false enc2)).map fun q => Value.ref q.1).toArray c) → Q (.ref p) s') :
    wpAny (model P w) A (call (.builtin "sorted") [.ref a]) Q E s := by
  obtain ⟨o, es, ep, ho, hex, hd, hes, hk, nd⟩ := R
  have hsz : es.size = xs.length := by rw [← Array.length_toList, hes, List.length_map]
  refine Calls.call_function_entry kind_sorted plain_sorted entry_sorted (args_sorted1 _) ?_
  unfold Builtin.«sorted»
  refine wpAny_bind (m := checkCount "sorted" 1 1 _) (wpAny_pure ?_)
  refine wpAny_bind (PySem.W.kdu_collect (A := A.in1) (kdl_raw hsys hex hd) hh ho (by rw [hsz]; exact hl) fun h1 tk acc k1 hi => ?_)
  have ea : acc.toList = (flipL xs).map fun q => Value.ref q.1 := by
    obtain ⟨i1, i2⟩ := hi
    refine List.ext_getElem? fun j => ?_
    rw [Array.getElem?_toList]
    by_cases hj : j < acc.size
    · obtain ⟨en, e1, e2⟩ := i2 j acc[j] (Array.getElem?_eq_getElem hj)
      rw [Array.getElem?_eq_getElem hj, e2]
      have e3 : es.toList[j]? = some en := by rw [Array.getElem?_toList]; exact e1
      rw [hes, List.getElem?_map] at e3
      cases ex : xs[j]? with
      | none => rw [ex] at e3; cases e3
      | some x =>
        rw [ex] at e3
        cases e3
        unfold flipL
        rw [List.map_map, List.getElem?_map, ex]
        rfl
    · rw [Array.getElem?_eq_none (by omega), List.getElem?_eq_none]
      rw [List.length_map]
      unfold flipL
      rw [List.length_map]
      omega
  rw [ea]
  have hvl : ((flipL xs).map fun q => Value.ref q.1).length ≤ sizeLine := by rw [List.length_map]; unfold flipL; rw [List.length_map]; exact hl
  generalize hL1 : flipL xs = L1 at *
  have tup : ∀ q ∈ L1, IsT P w s.heap q.2 q.1 := fun q hq => by
    subst hL1
    obtain ⟨x, hx, rfl⟩ := List.mem_map.mp hq
    exact hk x hx
  refine wpAny_bind (wpAny_newList ?_ (by first | exact hvl | (rw [List.size_toArray]; exact hvl)))
  have hoL : (h1.push (seqObj "list" (L1.map fun q => Value.ref q.1).toArray 0)).get? h1.objs.size = some (seqObj "list" (L1.map fun q => Value.ref q.1).toArray 0) := Heap.get?_push_size _ rfl
  have old : ∀ b u, s.heap.get? b = some u → (PySem.W.sortingHeap (h1.push (seqObj "list" (L1.map fun q => Value.ref q.1).toArray 0)) h1.objs.size (L1.map fun q => Value.ref q.1)).get? b = some u := fun b u q =>
    PySem.W.sortingHeap_old (Nat.ne_of_lt (Heap.lt_size (k1 b u q))) (Heap.get?_push_of_some _ (k1 b u q))
  have er := each_reads (P := P) (w := w) (L := L1) fun q hq => isT_keep (tup q hq) old
  have hal : PySem.W.AllAlike (L1.map enc2) := fun d hd e he => by
    obtain ⟨q, _, rfl⟩ := List.mem_map.mp hd
    obtain ⟨r, _, rfl⟩ := List.mem_map.mp he
    exact alike_tD _ _
  have S := sortsAt (prog := P) (w := w) (A := A.in1.in1) (s := { s with heap := PySem.W.sortingHeap (h1.push (seqObj "list" (L1.map fun q => Value.ref q.1).toArray 0)) h1.objs.size (L1.map fun q => Value.ref q.1), toks := tk })
    (PySem.W.each_map (R := fun v d => ∃ as, Reads (PySem.W.sortingHeap (h1.push (seqObj "list" (L1.map fun q => Value.ref q.1).toArray 0)) h1.objs.size (L1.map fun q => Value.ref q.1)) v d as) enc2 er) hal
    (fun d hd e => by obtain ⟨q, _, rfl⟩ := List.mem_map.mp hd; cases e) (fun d hd => by
      obtain ⟨q, _, rfl⟩ := List.mem_map.mp hd
      have := depth_tD q.2
      show A.units + 1 + 1 + (tD q.2).depth < cLine
      omega)
  refine wpAny_bind (wpAny_holding (wpAny_call_entry slot_list_sort ⟨_, hoL, rfl⟩ entry_list_sort (PySem.W.list_sort_vals (s := { s with heap := h1.push (seqObj "list" (L1.map fun q => Value.ref q.1).toArray 0), toks := tk }) hoL S hvl ⟨_, rfl, ?_⟩) (args_list_sort _)))
  have out := refs_each (PySem.W.sortVals_data false (each_refs L1) er hal)
  obtain ⟨c, hc⟩ := sortedHeap_at (vs := L1.map fun q => Value.ref q.1) (out := (PySem.W.sortVals (PySem.W.dataKind (PySem.W.sortingHeap (h1.push (seqObj "list" (L1.map fun q => Value.ref q.1).toArray 0)) h1.objs.size (L1.map fun q => Value.ref q.1)) (L1.map enc2)) false (L1.map fun q => Value.ref q.1) (L1.map fun q => Value.ref q.1)).toArray) hoL
  have hge : s.heap.get? h1.objs.size = none := by
    cases z : s.heap.get? h1.objs.size with
    | none => rfl
    | some u => exact absurd (Heap.lt_size (k1 _ u z)) (Nat.lt_irrefl _)
  refine wpAny_pure ⟨_, rfl, hQ _ h1.objs.size c (fun b u e => ?_) rfl rfl hge ?_⟩
  · have q := k1 b u e
    have hlt := Heap.lt_size q
    show (sortedHeap (h1.push _) h1.objs.size _ _).get? b = some u
    rw [sortedHeap_old (Nat.ne_of_lt hlt) (by rw [size_push']; exact Nat.lt_succ_of_lt hlt)]
    exact Heap.get?_push_of_some _ q
  · rw [← out]
    exact hc
end
theorem un_laid {fs ex : List Addr} {H : Hp} {h h' : Heap} {a : Addr} {o : HO} (k : ∀ b u, h.get? b = some u → h'.get? b = some u) (n : h.get? a = none) (hn : H a = none) : Un fs ex H (upd H a o) h h' := by
  have ne : ∀ {b : Addr} {u : Obj}, h.get? b = some u → b ≠ a := fun e z => by rw [z, n] at e; cases e
  have ne2 : ∀ {b : Addr} {u : HO}, H b = some u → b ≠ a := fun e z => by rw [z, hn] at e; cases e
  refine ⟨fun b o e _ _ _ => k b o e, fun b o e _ _ _ => ⟨o.slots, k b o e⟩, fun b u e z _ => by rw [upd_ne (ne e)]; exact z, fun b u e _ => ⟨u, k b u e⟩, fun b xs e => by rw [upd_ne (ne2 e)]; exact e, fun b u v e => by rw [upd_ne (ne2 e)]; exact e, fun b ps e => ⟨#[], by rw [upd_ne (ne2 e), Array.append_empty]; exact e⟩⟩
theorem hok_laid {P : Program} {w : World} {H : Hp} {h h' : Heap} {a : Addr} {o : HO} (I : HOk P w H h) (k : ∀ b u, h.get? b = some u → h'.get? b = some u) (n : h.get? a = none) (ok : ObjOk P w (upd H a o) h' a o) : HOk P w (upd H a o) h' := fun b u e => by
  have hn := I.gone n
  by_cases z : b = a
  · subst z; rw [upd_same] at e; cases e; exact ok
  · rw [upd_ne z] at e
    refine (I b u e).stay (fun c v _ q => k c v q) (fun c q => ?_) fun c xs q => ?_
    · rw [upd_ne (fun y => by rw [y, hn] at q; cases q)]; exact q
    · rw [upd_ne (fun y => by rw [y, hn] at q; cases q)]; exact q
/-- a row of the heap: the pair, the key, the key's ints, the value -/
structure PRow where
  T : Addr
  b : Addr
  k : List Int
  u : Value
section
variable {X : Cx} {W : WX} {pos : Pos} {K : Fg} {F : Hp}
theorem rows_of {pins : List (Addr × Obj)} {s : Shared} {σ : L2.St} {H : Hp} (I : Inv X pins σ H s) (sb : Sub F H) : ∀ {xs : List D} {vs : List V} {ks : List (List Int)}, DVs X.K F vs xs → pairK xs = some ks →
    ∃ rs : List PRow, vs = rs.map (fun r => V.ref r.T) ∧ ks = rs.map (·.k) ∧ ∀ r ∈ rs, IsTup s.heap r.T #[.ref r.b, r.u] ∧ SqT X.K F r.b (r.k.map V.int)
  | [], vs, ks, h, e => by cases e; exact ⟨[], h.unnil, rfl, fun r hr => (by cases hr)⟩
  | x :: xs, vs, ks, h, e => by
    obtain ⟨v, r, rfl, h1, h2⟩ := h.uncons
    unfold pairK at e
    split at e
    · rename_i e0; cases e0
    · rename_i ys d r' e0
      cases e0
      rw [Option.bind_eq_some_iff] at e
      obtain ⟨k, e1, e⟩ := e
      rw [Option.map_eq_some_iff] at e
      obtain ⟨ks', e2, rfl⟩ := e
      obtain ⟨rs, rfl, rfl, h3⟩ := rows_of I sb h2 e2
      obtain ⟨T, ws, rfl, hT, hw⟩ := h1.tup_inv
      obtain ⟨v1, w1, rfl, d1, hw⟩ := hw.uncons
      obtain ⟨v2, w2, rfl, d2, hw⟩ := hw.uncons
      have := hw.unnil
      subst this
      obtain ⟨b, us, rfl, hb, du⟩ := d1.tup_inv
      have := du.ints e1
      subst this
      obtain ⟨its, rv, pl, _⟩ := I.tuple (seqT_mono sb hT)
      cases rv with
      | cons q1 rv =>
        cases rv with
        | cons q2 rv =>
          cases rv
          cases q1
          exact ⟨⟨T, b, k, _⟩ :: rs, rfl, rfl, fun r hr => by
            rcases List.mem_cons.mp hr with z | z
            · subst z; exact ⟨pl, hb⟩
            · exact h3 r z⟩
    · cases e
def pH (rs : List PRow) : List (List Int × Addr × Value) := rs.map fun r => (r.k, r.b, r.u)
theorem stored_mem {xs : List (List Int × Addr × Value)} {k j : List Int} {a : Addr} {v : Value} (h : j = k ∨ j ∈ xs.map (·.1)) : j ∈ (storedH xs k a v).map (·.1) := by
  unfold storedH
  split
  · rename_i hs
    have e : (xs.map (putAt k v)).map (·.1) = xs.map (·.1) := by
      rw [List.map_map]
      refine List.map_congr_left fun x _ => ?_
      show (putAt k v x).1 = x.1
      unfold putAt
      split <;> rfl
    rw [e]
    rcases h with rfl | h
    · unfold atKey at hs
      rw [Option.isSome_map] at hs
      obtain ⟨x, hx⟩ := Option.isSome_iff_exists.mp hs
      have h1 := List.find?_some hx
      have h2 := List.mem_of_find?_eq_some hx
      exact List.mem_map.mpr ⟨x, h2, of_decide_eq_true h1⟩
    · exact h
  · rw [List.map_append]
    rcases h with rfl | h
    · exact List.mem_append_right _ (by simp)
    · exact List.mem_append_left _ h
theorem storedAll_mem : ∀ (ps xs : List (List Int × Addr × Value)) (j : List Int), (j ∈ ps.map (·.1) ∨ j ∈ xs.map (·.1)) → j ∈ (storedAllH xs ps).map (·.1)
  | [], xs, j, h => by
    rcases h with h | h
    · cases h
    · exact h
  | p :: ps, xs, j, h => by
    refine storedAll_mem ps (storedH xs p.1 p.2.1 p.2.2) j ?_
    rcases h with h | h
    · rw [List.map_cons] at h
      rcases List.mem_cons.mp h with h | h
      · exact .inr (stored_mem (.inl h))
      · exact .inl h
    · exact .inr (stored_mem (.inr h))
theorem s_order {a : Expr} {ps pq p1 p2 : Pos} {ka : Nat} {fa : Rho → M D} {j : Nat} (hc : X.calm = true) (hr : Room j X.A) (ha : PE X a (TE' X W ka fa)) (ns : ∀ x p, a ≠ .Starred x p) (g1 : Gl X "sorted") (m1 : X.mg "sorted" = none) (g2 : Gl X "dict") (m2 : X.mg "dict" = none) :
    PE X (.Call (.Name "sorted" ps) [.Call (.Name "dict" pq) [a] [] p1] [] p2) (TE' X W 1 fun ρ => (fa ρ).bind fun x => bltD .sdict [x]) := by
  have un := hr.un
  have core : PE X (.Call (.Name "sorted" ps) [.Call (.Name "dict" pq) [a] [] p1] [] p2) (fun σ H Q => TE' X W ka fa σ H fun x H1 => ∃ F xs ks, Sub F H1 ∧ BV X.K F H1 x (.list xs) ∧ pairK xs = some ks ∧
      ∀ (L : List (Addr × List Int)) (p : Addr), (∀ q ∈ L, SqT X.K F q.1 (q.2.map V.int)) → (L.map (·.2)).Nodup → (∀ k, k ∈ L.map (·.2) ↔ k ∈ ks) → H1 p = none → Q (.ref p) (upd H1 p (.lst ((L.mergeSort (PySem.W.dataLe false enc2)).map fun q => V.ref q.1)))) := by
    refine ⟨fun pins s σ H Q I hq => ?_⟩
    have na := star_cons ns [] X.env
    refine Call_ (ld_blt I g1 m1 PyProof.Rows.Boot.sorted ?_)
    refine PyProof.Rows.callWith_builtin1 (PyProof.Rows.args_cons ?_ (star_cons (by intro _ _ z; cases z) _ _)) (star_cons (by intro _ _ z; cases z) _ _) rfl
    refine Call_ (ld_blt I g2 m2 (show bootBuiltins ("dict" : Str) = some (.type "dict") by decide +kernel) ?_)
    refine PyProof.Rows.callWith_type1 (T := "dict") (PyProof.Rows.args_cons (thn (ha.run pins s σ H _ I hq) fun v s1 ⟨x, H1, I1, r1, q1⟩ => PyProof.Rows.args_nil ?_) na) na rfl
    obtain ⟨F, xs, ks, sb, hb, hk, q1⟩ := q1
    obtain ⟨l, vs, rfl, hl, t⟩ := hb.lst_inv' sb
    cases r1
    obtain ⟨its, rv, pl, hz⟩ := I1.list hl
    obtain ⟨rs, rfl, rfl, hrs⟩ := rows_of I1 sb t hk
    have eits : its = rs.map fun r => Value.ref r.T := by
      clear hrs hk pl hz
      have gen : ∀ (rs : List PRow) (its : List Value), Vals (rs.map fun r => V.ref r.T) its → its = rs.map fun r => Value.ref r.T := by
        intro rs
        induction rs with
        | nil => intro its h; cases h; rfl
        | cons r rs ih =>
          intro its h
          cases h with
          | cons h1 h2 => cases h1; rw [ih _ h2]; rfl
      exact gen rs its rv
    subst eits
    have hn0 : rs.length ≤ sizeLine := by simpa using hz
    let pr : List (Value × Value) := rs.map fun r => (Value.ref r.b, r.u)
    let Ts : Nat → Addr := fun j => ((rs[j]?).map (·.T)).getD 0
    have hlen : pr.length = rs.length := by show (rs.map _).length = _; rw [List.length_map]
    have isT : ∀ x ∈ pH rs, IsT X.prog X.w s1.heap x.1 x.2.1 := fun x hx => by
      obtain ⟨r, hr, rfl⟩ := List.mem_map.mp hx
      exact I1.isT (seqT_mono sb (hrs r hr).2)
    obtain ⟨lo, ln, hlo, hlc, hld, hldat⟩ := pl
    refine call_dict_pairsH (knd := kdT X.prog X.w) (ps := pH rs) (PairArg.list l (rs.map fun r => Value.ref r.T).toArray Ts pr) (I1.ok.hd hc) (show X.A.in1.in1.units < cLine by show X.A.units + 1 + 1 < cLine; omega) ⟨⟨lo, ln, hlo, hlc, hld, hldat⟩, ?_, ?_⟩ ⟨?_, ?_⟩ ?_ (by rw [hlen]; exact hn0) fun h' tk R keep => ?_
    · rw [hlen]; simp
    · intro j k v hj
      show _ ∧ PairAt s1.heap (Ts j) k v
      rw [List.getElem?_map] at hj
      cases e : rs[j]? with
      | none => rw [e] at hj; cases hj
      | some r =>
        rw [e] at hj
        cases hj
        have eT : Ts j = r.T := by show ((rs[j]?).map (·.T)).getD 0 = _; rw [e]; rfl
        rw [eT]
        refine ⟨by simp [e], .inl (hrs r (List.mem_of_getElem? e)).1⟩
    · rw [hlen]; unfold pH; rw [List.length_map]
    · intro i key v hi
      have hi : pr[i]? = some (key, v) := hi
      rw [List.getElem?_map] at hi
      cases e : rs[i]? with
      | none => rw [e] at hi; cases hi
      | some r =>
        rw [e] at hi
        cases hi
        exact ⟨r.k, r.b, by unfold pH; rw [List.getElem?_map, e]; rfl, rfl⟩
    · intro h' hk' x hx
      obtain ⟨o, items, n, ho, c1, c2, c3⟩ := isT x hx
      exact ⟨o, items, n, hk' _ o (Nat.ne_of_lt (Heap.lt_size ho)) (by simp) ho, c1, c2, c3⟩
    · refine PyProof.Rows.args_nil ?_
      have keep : ∀ b o, s1.heap.get? b = some o → h'.get? b = some o := fun b o e => keep b o (by simp) e
      have I2 : Inv X pins σ H1 { s1 with heap := h', toks := tk } := I1.kept (t' := tk) keep
      have sys : (s1.heap.objs.size == sysModules) = false := by
        have := I1.big
        simpa using Nat.ne_of_gt this
      have hS : (storedAllH [] (pH rs)).length ≤ sizeLine := by
        have := storedAllH_length (pH rs) []
        unfold pH at this
        rw [List.length_map] at this
        simp at this
        unfold pH
        omega
      have hP := storedAllH_keys (P := fun k b => ∃ y ∈ pH rs, k = y.1 ∧ b = y.2.1) (xs := []) (ps := pH rs) (fun x hx => by cases hx) (fun x hx => ⟨x, hx, rfl, rfl⟩)
      have nd := R
      obtain ⟨_, _, _, _, _, _, _, _, nd⟩ := nd
      refine sorted_dict (s := { s1 with heap := h', toks := tk }) R sys hS (I2.ok.hd hc) (by omega) fun s' p c k g o hp hg => ?_
      have hn : H1 p = none := I2.hok.gone hp
      have hlen2 : (((flipL (storedAllH [] (pH rs))).mergeSort (PySem.W.dataLe false enc2)).map fun q => V.ref q.1).length ≤ sizeLine := by
        rw [List.length_map, (List.mergeSort_perm _ _).length_eq]
        unfold flipL
        rw [List.length_map]
        exact hS
      have J : Inv X pins σ (upd H1 p (.lst (((flipL (storedAllH [] (pH rs))).mergeSort (PySem.W.dataLe false enc2)).map fun q => V.ref q.1))) { s1 with heap := s'.heap, gens := s'.gens, drawn := s'.drawn, toks := s'.toks } :=
        Inv.call (s := { s1 with heap := h', toks := tk }) (ch := []) I2 (un_laid k hp hn) (hok_laid I2.hok k hp ⟨hlen2, _, c, vals_of_refs _, hg⟩) (by rw [g]; exact I2.bare) (fun _ z => nomatch z)
      have e : s' = { s1 with heap := s'.heap, gens := s'.gens, drawn := s'.drawn, toks := s'.toks } := by
        cases s'
        cases s1
        cases o
        rfl
      rw [e]
      have e2 : (flipL (storedAllH [] (pH rs))).map (·.2) = (storedAllH [] (pH rs)).map (·.1) := by unfold flipL; rw [List.map_map]; rfl
      refine ⟨.ref p, _, J, rfl, q1 (flipL (storedAllH [] (pH rs))) p (fun q hq => ?_) (by rw [e2]; exact nd) (fun k => ?_) hn⟩
      · obtain ⟨x, hx, rfl⟩ := List.mem_map.mp hq
        obtain ⟨y, hy, e3, e4⟩ := hP x hx
        obtain ⟨r, hr, rfl⟩ := List.mem_map.mp hy
        show SqT X.K F x.2.1 (x.1.map V.int)
        rw [e3, e4]
        exact (hrs r hr).2
      · rw [e2]
        have e5 : (pH rs).map (·.1) = rs.map (·.k) := by unfold pH; rw [List.map_map]; rfl
        refine ⟨fun hx => ?_, fun hx => storedAll_mem (pH rs) [] k (.inl (by rw [e5]; exact hx))⟩
        obtain ⟨x, hx', rfl⟩ := List.mem_map.mp hx
        obtain ⟨y, hy, e3, _⟩ := hP x hx'
        rw [e3, ← e5]
        exact List.mem_map.mpr ⟨y, hy, rfl⟩
  refine PE.imp core fun σ H Q ⟨F0, H0, F, ρ, r, p⟩ => ⟨F0, H0, F, ρ, r, PostE.seq p fun d v F1 H1 g r1 p1 => ?_⟩
  cases d <;> first | exact (show False from p1).elim | skip
  rename_i xs
  have p1 : PostE X W F1 H1 σ 1 ((M.ofO (pairK xs)).bind fun ks => .ok (.list ((sortI (dd ks)).map tD))) Q := p1
  cases e : pairK xs with
  | none => rw [e] at p1; exact p1.elim
  | some ks =>
    rw [e] at p1
    refine ⟨F1, xs, ks, g.fh, r1.bv, e, fun L q hL nd hm hq => ?_⟩
    have e2 : (L.mergeSort (PySem.W.dataLe false enc2)).map enc2 = (sortI (dd ks)).map tD := by
      have z : (L.mergeSort (PySem.W.dataLe false enc2)).map (·.2) = sortI (dd ks) := by
        rw [merge_keys]
        exact sortI_eq (perm_dd nd fun x => hm x)
      rw [← z, List.map_map]
      rfl
    have t2 : DVs X.K F1 ((L.mergeSort (PySem.W.dataLe false enc2)).map fun q => V.ref q.1) ((sortI (dd ks)).map tD) := by
      rw [← e2]
      exact DVs.of_keys fun p hp => hL p ((List.mergeSort_perm L _).mem_iff.mp hp)
    exact PostV.newLst (K := X.K) p1 g.fh t2 hq
end
end DL

/-! DMax: max(list, default=e). -/
namespace DL
open PySem PySem.Spec PyProof.Rows L2
theorem lt_int (a b : Int) : PySem.W.dataLt (PyData.int a) (PyData.int b) = decide (a < b) := by
  show PyProof.Rows.lexLt PyProof.Rows.itemOrd (PySem.W.keyToks (PyData.int a)) (PySem.W.keyToks (PyData.int b)) = _
  rw [PySem.W.keyToks, PySem.W.keyToks]
  by_cases h : a = b
  · subst h
    refine (PyProof.Rows.lex_self (O := PyProof.Rows.itemOrd) (Sum.inl a) _ _).trans ?_
    rw [decide_eq_false (by omega)]
    rfl
  · exact PyProof.Rows.lex_diff (O := PyProof.Rows.itemOrd) (x := Sum.inl a) (y := Sum.inl b) (by simpa using h)
theorem maxD_int : ∀ (ns : List Int) (n : Int), PySem.W.maxD (.int n) (ns.map .int) = .int (ns.foldl max n)
  | [], _ => rfl
  | m :: ns, n => by
    have e : (if PySem.W.dataLt (PyData.int n) (PyData.int m) = true then PyData.int m else .int n) = .int (max n m) := by
      rw [lt_int]
      by_cases h : n < m
      · rw [if_pos (decide_eq_true h)]; congr 1; omega
      · rw [if_neg (by simpa using h)]; congr 1; omega
    show PySem.W.maxD (if PySem.W.dataLt (PyData.int n) (PyData.int m) = true then PyData.int m else .int n) (ns.map .int) = _
    rw [e, maxD_int ns (max n m)]
    rfl
section
variable {X : Cx} {W : WX} {k k1 : Nat} {pos p p3 : Pos}
theorem alike_all_ints (ns : List Int) : PySem.W.AlikeAll (ns.map PyData.int) := ⟨fun d hd e he => by
    obtain ⟨a, _, rfl⟩ := List.mem_map.mp hd
    obtain ⟨b, _, rfl⟩ := List.mem_map.mp he
    rw [PySem.W.alike], fun d hd z => by
    obtain ⟨a, _, rfl⟩ := List.mem_map.mp hd
    cases z⟩
theorem te_mono {f : Rho → M D} {σ : St} {H : Hp} {Q Q' : VK} (h : TE' X W k f σ H Q) (i : ∀ v H, Q v H → Q' v H) : TE' X W k f σ H Q' := by
  obtain ⟨F0, H0, F, ρ, r, p⟩ := h
  refine ⟨F0, H0, F, ρ, r, ?_⟩
  cases e : f ρ with
  | ok d => rw [e] at p; exact fun v F' H' g z => i _ _ (p v F' H' g z)
  | ex c fs => rw [e] at p; exact p
  | bad => rw [e] at p; exact p
theorem s_maxd {e de : Expr} {fe fd : Rho → M D} {j : Nat} (hc : X.calm = true) (hr : Room j X.A) (he : PE X e (TE' X W k fe)) (hd : PE X de (TE' X W k1 fd)) (ns : ∀ x p, e ≠ .Starred x p) (hg : Gl X "max") (hm : X.mg "max" = none) (hfd : ∀ ρ d, fd ρ = .ok d → ∃ i, d = .int i) :
    PE X (.Call (.Name "max" p) [e] [⟨some "default", de, p3⟩] pos) (TE' X W 1 fun ρ => (fe ρ).bind fun x => (fd ρ).bind fun y => bltD .maxd [x, y]) := by
  have un := hr.un
  have core : PE X (.Call (.Name "max" p) [e] [⟨some "default", de, p3⟩] pos) (fun σ H Q => TE' X W k fe σ H fun x H1 => TE' X W k1 fd σ H1 fun y H2 => ∃ (l : Addr) (is : List Int), x = .ref l ∧ SqL X.K H2 l (is.map V.int) ∧ (is = [] → Q y H2) ∧ ∀ i r, is = i :: r → Q (.int (r.foldl max i)) H2) := by
    refine ⟨fun pins s σ H Q I hq => ?_⟩
    have na := star_cons ns [] X.env
    have ekw : backToKw pos (keywordEach [⟨some ("default" : Str), de, p3⟩] X.env) = [(some ("default" : Str), do let v ← eval de X.env; standAt pos; pure v)] := rfl
    have ear : backTo pos (starEach [e] X.env) = [(false, eval e X.env)] := by rw [na]; rfl
    refine wpAny_Call_Name_kw (ld_blt I hg hm PyProof.Rows.Boot.max ?_)
    refine callWith_kw ?_ (by rw [na]; rfl) (by rw [ear]; rfl) (by rw [ekw]; rfl) (by rw [ekw]; rfl)
    have run := (pa_cons he pa_nil na).run pos pins s σ H (fun vs H1 => ∃ x, vs = [x] ∧ (TE' X W k1 fd σ H1 fun y H2 => ∃ (l : Addr) (is : List Int), x = .ref l ∧ SqL X.K H2 l (is.map V.int) ∧ (is = [] → Q y H2) ∧ ∀ i r, is = i :: r → Q (.int (r.foldl max i)) H2)) I ?_
    · refine thn run fun us s1 ⟨vs, H1, I1, r1, x, ev, q1⟩ => ?_
      subst ev
      rw [ekw]
      refine wpAny_evalAll_cons (wpAny_bind (thn (hd.run pins s1 σ H1 _ I1 q1) fun w s2 ⟨y, H2, I2, r2, l, is, ex, hl, h1, h2⟩ => wpAny_bind (wpAny_standAt (wpAny_pure (wpAny_evalAll_nil ?_)))))
      subst ex
      rw [Vals.ref1 r1]
      obtain ⟨its, rv, pl, hz⟩ := I2.list hl
      obtain ⟨as, ra⟩ := ints_reads (h := s2.heap) rv.ints
      have dep : PyData.depthAll (is.map PyData.int) ≤ 1 := depth_ints is
      refine PySem.W.max_list_default (I2.ok.hd hc) pl.isList (by simpa using ra) (alike_all_ints is) (by omega) (fun e h' tk hk => ?_) fun y0 ys i v h' tk bs e hv rd hk => ?_
      · have e' : is = [] := List.map_eq_nil_iff.mp e
        exact ⟨y, H2, I2.kept hk, r2, h1 e'⟩
      · cases is with
        | nil => cases e
        | cons i0 is =>
          rw [List.map_cons] at e
          injection e with e1 e2
          subst e1 e2
          rw [maxD_int] at rd
          cases rd
          exact ⟨.int _, H2, I2.kept hk, ⟨_, rfl⟩, h2 i0 is rfl⟩
    · exact te_mono hq fun v H1 z => ⟨v, rfl, z⟩
  refine PE.imp core fun σ H Q ⟨F0, H0, F, ρ, r, q⟩ => ⟨F0, H0, F, ρ, r, PostE.seq q fun d v F1 H1 g r1 q1 => ⟨F0, H0, F1, ρ, r.grow g, seqEq q1 fun d2 u F2 H2 g2 r2 q2 e0 => ?_⟩⟩
  obtain ⟨i2, rfl⟩ := hfd ρ d2 e0
  cases d <;> first | exact (show False from q2).elim | skip
  rename_i xs
  have q2 : PostE X W F2 H2 σ 1 ((M.ofO (intsD xs)).bind fun ns => match ns with
      | [] => .ok (.int i2)
      | n :: r => .ok (.int (r.foldl max n))) Q := q2
  cases e : intsD xs with
  | none => rw [e] at q2; exact (show False from q2).elim
  | some is =>
    rw [e] at q2
    obtain ⟨l, vs, rfl, hl, t⟩ := (r1.grow g2).bv.lst_inv' g2.fh
    have := t.ints e
    subst this
    refine ⟨l, is, rfl, hl, fun z => ?_, fun i r z => ?_⟩
    · subst z
      have q2 : PostE X W F2 H2 σ 1 (.ok (.int i2)) Q := q2
      exact q2.flat g2.fh (r2.bv.dv rfl) rfl
    · subst z
      have q2 : PostE X W F2 H2 σ 1 (.ok (.int (r.foldl max i))) Q := q2
      exact q2.flat g2.fh (.int _) rfl
end
end DL

/-! DTr: a text is turned into the small language; what is turned keeps its plain meaning. -/
namespace DL
open PySem PySem.Spec PyProof.Rows L2
/-- a global's written value -/
inductive Gc where
  | int (i : Int)
  | str (s : Str)
def GcOk (mg : Str → Option Value) (x : Str) : Gc → Prop
  | .int i => ∃ t, mg x = some (.int i t)
  | .str s => PyData.strOk s = true ∧ ∃ t, mg x = some (.str s t)
structure Ct where
  N : List Str
  sc : Scope
  own : List Nat
  sig : Str → Option (List Pm)
  gis : Str → Option Gc
  cls : Str → Option (List Str)
  fnc : Str → Bool
  kd : Option KdI
  nl : Bool
def bltNames : List Str := ["len", "tuple", "list", "sorted", "max", "min", "sum", "all", "abs", "int", "isinstance", "bool", "str", "range", "enumerate", "zip", "set", "reversed", "any", "dict"]
structure CxOk (C : Ct) (X : Cx) (W : WX) (j : Nat) (G : Gm) : Prop where
  N : X.N = C.N
  sc : X.env.scope = C.sc
  nd : X.N.Nodup
  calm : X.calm = true
  room : Room j X.A
  tk : Takes X W
  sig : ∀ f ms, C.sig f = some ms → FnG X j f ms (G f)
  gis : ∀ x i, C.gis x = some i → GcOk X.mg x i
  cls : ∀ c ns, C.cls c = some ns → ∀ Y : Cx, Y.prog = X.prog → Y.w = X.w → Y.K = X.K → Y.mg = X.mg → Y.base = X.base → RaG Y j c ns
  blt : ∀ x ∈ bltNames, X.mg x = none
  fnc : ∀ x, C.fnc x = true → X.fn x = true
  kd : ∀ t, C.kd = some t → KdOk X.prog X.w X.K X.mg X.base t j
  nl : C.nl = true → nlK X.K = true
def Ct.blk (C : Ct) (scope : Scope) : Ct := { C with sc := relS scope C.sc, cls := fun _ => none, fnc := fun x => scope.names.lookup x == some .cell, kd := none, nl := false }
theorem takes0' {X : Cx} : Takes X W0 := fun _ _ x => by
  obtain ⟨_, _, _, _, _, _, _, _, _, _, _, _, _, _, _, _, z⟩ := x
  exact z.elim
theorem CxOk.blk {C : Ct} {X : Cx} {W : WX} {j : Nat} {G : Gm} (h : CxOk C X W j G) (scope : Scope) (s : Shared) (H : Hp) (c : Addr) (cl : List (Str × Addr)) (fp : List Addr) : CxOk (C.blk scope) (X.blk s H scope (compEnvC scope cl c X.env) fp) W0 j G where
  N := h.N
  sc := by show relS scope X.env.scope = relS scope C.sc; rw [h.sc]
  nd := h.nd
  calm := h.calm
  room := h.room
  tk := takes0'
  sig := fun f ms e => ⟨(h.sig f ms e).ex⟩
  gis := h.gis
  cls := fun c ns e => by cases e
  blt := h.blt
  fnc := fun x e => e
  kd := fun t e => by cases e
  nl := fun e => by cases e
def ixOf : List Str → Str → Option Nat
  | [], _ => none
  | y :: ys, x => if x = y then some 0 else (ixOf ys x).map (· + 1)
theorem ixOf_get : ∀ {ys : List Str} {x : Str} {i : Nat}, ixOf ys x = some i → ys[i]? = some x
  | [], _, _, h => by cases h
  | y :: ys, x, i, h => by
    unfold ixOf at h
    split at h
    · rename_i e; cases h; rw [e]; rfl
    · cases e : ixOf ys x with
      | none => rw [e] at h; cases h
      | some k => rw [e] at h; cases h; show ys[k]? = some x; exact ixOf_get e
def Ct.vis (C : Ct) (x : Str) : Bool := match C.sc.names.lookup x with
  | some .local => true
  | some .cell => true
  | some .free => true
  | _ => false
def Ct.loc (C : Ct) (x : Str) : Bool := match C.sc.names.lookup x with
  | some .local => true
  | some .cell => C.fnc x
  | _ => false
def Ct.gl (C : Ct) (x : Str) : Bool := match C.sc.names.lookup x with
  | some .globalImplicit => true
  | _ => false
def pl : Expr → Bool
  | .Set _ _ _ => false
  | .Starred _ _ => false
  | .Slice _ _ _ _ => false
  | _ => true
theorem pl_star {e : Expr} (h : pl e = true) : ∀ x p, e ≠ .Starred x p := fun x p z => by subst z; cases h
theorem pl_behind {e : Expr} (h : pl e = true) (op : CmpOp) : behindInMarks op e = false := by cases e <;> first | rfl | cases h
theorem pl_ix {e : Expr} (h : pl e = true) : PlainIx e := fun o i => by cases e <;> first | rfl | cases h
theorem pl_fsi {e : Expr} (h : pl e = true) (env : Env) : ∀ x, foldedSetIterable e env x = pure x := fun x => by cases e <;> first | rfl | cases h
section
variable {C : Ct} {X : Cx} {W : WX} {j : Nat} {G : Gm} {x : Str}
theorem CxOk.vis (h : CxOk C X W j G) (e : C.vis x = true) : Vis X.env.scope x := by
  unfold Ct.vis at e
  rw [← h.sc] at e
  split at e <;> first | exact .inl (by assumption) | exact .inr (.inl (by assumption)) | exact .inr (.inr (by assumption)) | cases e
theorem CxOk.loc (h : CxOk C X W j G) (e : C.loc x = true) : Loc X.env.scope x ∧ (X.fn x = true ∨ X.env.scope.names.lookup x = some .local) := by
  unfold Ct.loc at e
  rw [← h.sc] at e
  split at e
  · exact ⟨.inl (by assumption), .inr (by assumption)⟩
  · exact ⟨.inr (by assumption), .inl (h.fnc _ e)⟩
  · cases e
theorem CxOk.gl (h : CxOk C X W j G) (e : C.gl x = true) : Gl X x := by
  unfold Ct.gl at e
  rw [← h.sc] at e
  show X.env.scope.names.lookup x = _
  split at e
  · assumption
  · cases e
theorem CxOk.ix (h : CxOk C X W j G) {i : Nat} (e : ixOf C.N x = some i) : X.N[i]? = some x := by rw [h.N]; exact ixOf_get e
end
/-! ### what a turning promises -/
def SndE (C : Ct) (e : Expr) (e' : E) : Prop := ∀ X W j G, CxOk C X W j G → PE X e (TE' X W (fl e') (ev G e'))
def SndT (C : Ct) (e : Expr) (e' : E) : Prop := ∀ X W j G, CxOk C X W j G → PT X e (TT' X W fun ρ => evB (ev G e' ρ))
def ne2 (e : E) : Bool := match fl e with
  | 0 => true
  | 1 => true
  | _ => false
theorem ne2_of {e : E} (h : ne2 e = true) : fl e = 0 ∨ fl e = 1 := by
  unfold ne2 at h
  split at h
  · exact .inl (by assumption)
  · exact .inr (by assumption)
  · cases h
def opOf : Operator → Option Bop
  | .Add => some .add | .Sub => some .sub | .Mult => some .mul | .FloorDiv => some .fdiv | .Mod => some .md | .Pow => some .pow | .LShift => some .shl | .RShift => some .shr | .BitAnd => some .band | _ => none
theorem opOf_eq {o : Operator} {b : Bop} (h : opOf o = some b) : o = bopOf b := by cases o <;> cases h <;> rfl
def copT (r : Expr) : CmpOp → Option Cop
  | .Eq => some .eq | .NotEq => some .ne | .Lt => some .lt | .LtE => some .le | .Gt => some .gt | .GtE => some .ge | .In => some .mem | .NotIn => some .nmem
  | .Is => match r with
    | .Constant .none _ _ => some .isN
    | .Constant (.bool true) _ _ => some .isT
    | .Constant (.bool false) _ _ => some .isF
    | _ => none
  | .IsNot => match r with
    | .Constant .none _ _ => some .notN
    | .Constant (.bool true) _ _ => some .notT
    | .Constant (.bool false) _ _ => some .notF
    | _ => none
theorem copT_eq {o : CmpOp} {r : Expr} {b : Cop} (h : copT r o = some b) : o = copOf b := by
  cases o <;> first
    | (cases h; rfl)
    | (unfold copT at h; dsimp only at h; split at h <;> cases h <;> rfl)
def tyOf (x : Str) : Option Ty := if x = ("int" : Str) then some .int else if x = ("bool" : Str) then some .bool else if x = ("str" : Str) then some .str else if x = ("list" : Str) then some .list else if x = ("tuple" : Str) then some .tuple else none
theorem tyOf_eq {x : Str} {t : Ty} (h : tyOf x = some t) : x = Str.ofString (tyName t) := by
  unfold tyOf at h
  repeat' split at h
  all_goals first | (cases h; assumption) | cases h
def bltOf (x : Str) (n : Nat) : Option Blt :=
  if x = ("len" : Str) ∧ n = 1 then some .len else if x = ("tuple" : Str) ∧ n = 1 then some .tuple else if x = ("list" : Str) ∧ n = 1 then some .list else if x = ("sorted" : Str) ∧ n = 1 then some .sorted
  else if x = ("max" : Str) ∧ n = 1 then some .max else if x = ("max" : Str) ∧ n = 2 then some .max2 else if x = ("sum" : Str) ∧ n = 1 then some .sum else if x = ("all" : Str) ∧ n = 1 then some .all
  else if x = ("abs" : Str) ∧ n = 1 then some .abs else if x = ("int" : Str) ∧ n = 1 then some .int else if x = ("str" : Str) ∧ n = 1 then some .str else none
def flsE : Es → List Nat
  | .nil => []
  | .cons e es => fl e :: flsE es
def trs (r : Expr → Option E) : List Expr → Option Es
  | [] => some .nil
  | e :: es => if pl e = true then do
      let e' ← r e
      let es' ← trs r es
      some (.cons e' es')
    else none
theorem trs_ok {r : Expr → Option E} {X : Cx} {W : WX} {G : Gm} (hr : ∀ e e', r e = some e' → PE X e (TE' X W (fl e') (ev G e'))) : ∀ {es : List Expr} {es' : Es}, trs r es = some es' → PA X es (TA' X W (flsE es') (evs G es')) ∧ (∀ e ∈ es, ∀ x p, e ≠ .Starred x p)
  | [], es', h => by cases h; exact ⟨a_nil, fun e he => by cases he⟩
  | e :: es, es', h => by
    unfold trs at h
    split at h
    case isFalse => cases h
    rename_i hp
    simp only [Option.bind_eq_bind, Option.bind_eq_some_iff] at h
    obtain ⟨e', h1, es2, h2, h3⟩ := h
    cases h3
    obtain ⟨i1, i2⟩ := trs_ok hr h2
    refine ⟨a_cons (hr e e' h1) i1 (pl_star hp), fun e2 he2 => ?_⟩
    rcases List.mem_cons.mp he2 with q | q
    · subst q; exact pl_star hp
    · exact i2 e2 q
def all2 : Es → Bool
  | .nil => true
  | .cons e es => ne2 e && all2 es
theorem all2_ok : ∀ {es : Es}, all2 es = true → ∀ k ∈ flsE es, k = 0 ∨ k = 1
  | .nil, _, k, hk => by cases hk
  | .cons e es, h, k, hk => by
    unfold all2 at h
    rw [Bool.and_eq_true] at h
    rcases List.mem_cons.mp hk with q | q
    · subst q; exact ne2_of h.1
    · exact all2_ok h.2 k q
/-- sorted(set(a)) -/
def setArg (x : Str) : List Expr → Option Expr
  | [.Call (.Name y _) [a] [] _] => if x = ("sorted" : Str) ∧ y = ("set" : Str) then some a else none
  | _ => none
theorem setArg_ok {x : Str} {args : List Expr} {a : Expr} (h : setArg x args = some a) : x = ("sorted" : Str) ∧ ∃ p q, args = [.Call (.Name "set" p) [a] [] q] := by
  unfold setArg at h
  split at h
  · split at h
    · rename_i e
      cases h
      exact ⟨e.1, _, _, by rw [e.2]⟩
    · cases h
  · cases h
/-- tuple(range(a)), list(range(a)), len(set(a)) -/
def rngArg (x : Str) : List Expr → Option (Blt × Expr)
  | [.Call (.Name y _) [a] [] _] => if x = ("tuple" : Str) ∧ y = ("range" : Str) then some (.trng, a) else if x = ("list" : Str) ∧ y = ("range" : Str) then some (.lrng, a) else if x = ("len" : Str) ∧ y = ("set" : Str) then some (.lset, a) else if x = ("sorted" : Str) ∧ y = ("dict" : Str) then some (.sdict, a) else none
  | _ => none
def rngNm : Blt → Str
  | .lset => "set"
  | .sdict => "dict"
  | _ => "range"
theorem rngArg_ok {x : Str} {args : List Expr} {b : Blt} {a : Expr} (h : rngArg x args = some (b, a)) : ∃ (y : Str) (p q : Pos), args = [.Call (.Name y p) [a] [] q] ∧ ((x = ("tuple" : Str) ∧ y = ("range" : Str) ∧ b = .trng) ∨ (x = ("list" : Str) ∧ y = ("range" : Str) ∧ b = .lrng) ∨ (x = ("len" : Str) ∧ y = ("set" : Str) ∧ b = .lset) ∨ (x = ("sorted" : Str) ∧ y = ("dict" : Str) ∧ b = .sdict)) := by
  unfold rngArg at h
  split at h
  · rename_i y p a' q
    split at h
    · rename_i e; cases h; exact ⟨y, p, q, rfl, .inl ⟨e.1, e.2, rfl⟩⟩
    · split at h
      · rename_i e; cases h; exact ⟨y, p, q, rfl, .inr (.inl ⟨e.1, e.2, rfl⟩)⟩
      · split at h
        · rename_i e; cases h; exact ⟨y, p, q, rfl, .inr (.inr (.inl ⟨e.1, e.2, rfl⟩))⟩
        · split at h
          · rename_i e; cases h; exact ⟨y, p, q, rfl, .inr (.inr (.inr ⟨e.1, e.2, rfl⟩))⟩
          · cases h
  · cases h
/-- a call -/
def trCall (r : Expr → Option E) (C : Ct) (x : Str) (args : List Expr) : Option E :=
  if C.gl x = true ∧ nm x = true then
    match C.sig x with
    | some ms => do
      let es ← trs r args
      if fitK ms (flsE es) = true ∧ args.isEmpty = false then some (.call x es) else none
    | none =>
      if x = ("isinstance" : Str) then match args with
        | [a, .Name t _] => do
          let t' ← tyOf t
          let a' ← r a
          if C.gl t = true ∧ pl a = true then some (.isi a' t') else none
        | _ => none
      else match setArg x args with
        | some a => do
          let a' ← r a
          if C.gl "set" = true ∧ pl a = true then some (.blt .sset (.cons a' .nil)) else none
        | none => match rngArg x args with
          | some (b, a) => do
            let a' ← r a
            if C.gl (rngNm b) = true ∧ pl a = true then some (.blt b (.cons a' .nil)) else none
          | none => do
            let b ← bltOf x args.length
            let es ← trs r args
            some (.blt b es)
  else none
set_option maxHeartbeats 2000000 in
theorem blt_snd {X : Cx} {W : WX} {j : Nat} {G : Gm} {C : Ct} {x : Str} {e : Expr} {es : List Expr} {b : Blt} {px pos : Pos} {ks : List Nat} {fs : Rho → M (List D)} (h : CxOk C X W j G) (hg : Gl X x) (hb : bltOf x (e :: es).length = some b)
    (ha : PA X (e :: es) (TA' X W ks fs)) (ns : ∀ e' ∈ e :: es, ∀ x p, e' ≠ .Starred x p) : PE X (.Call (.Name x px) (e :: es) [] pos) (TE' X W 1 fun ρ => (fs ρ).bind fun ds => bltD b ds) := by
  have mm : ∀ y, y ∈ bltNames → X.mg y = none := h.blt
  unfold bltOf at hb
  split at hb
  · rename_i q; obtain ⟨rfl, _⟩ := q; cases hb
    exact s_bltB b_len hg (mm _ (by decide +kernel)) (by decide +kernel) (by decide +kernel) (by decide +kernel) ha ns
  split at hb
  · rename_i q; obtain ⟨rfl, _⟩ := q; cases hb
    exact s_bltT b_tuple hg (mm _ (by decide +kernel)) (by decide +kernel) (by decide +kernel) (by decide +kernel) ha ns
  split at hb
  · rename_i q; obtain ⟨rfl, _⟩ := q; cases hb
    exact s_bltT b_list hg (mm _ (by decide +kernel)) (by decide +kernel) (by decide +kernel) (by decide +kernel) ha ns
  split at hb
  · rename_i q; obtain ⟨rfl, _⟩ := q; cases hb
    exact s_bltB (b_sorted h.room) hg (mm _ (by decide +kernel)) (by decide +kernel) (by decide +kernel) (by decide +kernel) ha ns
  split at hb
  · rename_i q; obtain ⟨rfl, _⟩ := q; cases hb
    exact s_bltB (b_max h.calm) hg (mm _ (by decide +kernel)) (by decide +kernel) (by decide +kernel) (by decide +kernel) ha ns
  split at hb
  · rename_i q; obtain ⟨rfl, _⟩ := q; cases hb
    exact s_bltB (b_max2 h.calm) hg (mm _ (by decide +kernel)) (by decide +kernel) (by decide +kernel) (by decide +kernel) ha ns
  split at hb
  · rename_i q; obtain ⟨rfl, _⟩ := q; cases hb
    exact s_bltB (b_sum h.calm) hg (mm _ (by decide +kernel)) (by decide +kernel) (by decide +kernel) (by decide +kernel) ha ns
  split at hb
  · rename_i q; obtain ⟨rfl, _⟩ := q; cases hb
    exact s_bltB (b_all h.calm) hg (mm _ (by decide +kernel)) (by decide +kernel) (by decide +kernel) (by decide +kernel) ha ns
  split at hb
  · rename_i q; obtain ⟨rfl, _⟩ := q; cases hb
    exact s_bltB b_abs hg (mm _ (by decide +kernel)) (by decide +kernel) (by decide +kernel) (by decide +kernel) ha ns
  split at hb
  · rename_i q; obtain ⟨rfl, _⟩ := q; cases hb
    exact s_bltT b_int hg (mm _ (by decide +kernel)) (by decide +kernel) (by decide +kernel) (by decide +kernel) ha ns
  split at hb
  · rename_i q; obtain ⟨rfl, _⟩ := q; cases hb
    exact s_bltT b_str hg (mm _ (by decide +kernel)) (by decide +kernel) (by decide +kernel) (by decide +kernel) ha ns
  · cases hb
theorem trCall_ok {r : Expr → Option E} {C : Ct} {x : Str} {args : List Expr} {e' : E} {px pos : Pos} {X : Cx} {W : WX} {j : Nat} {G : Gm} (h : CxOk C X W j G) (hr : ∀ e e', r e = some e' → PE X e (TE' X W (fl e') (ev G e')))
    (e : trCall r C x args = some e') : PE X (.Call (.Name x px) args [] pos) (TE' X W (fl e') (ev G e')) := by
  unfold trCall at e
  split at e
  case isFalse => cases e
  rename_i hg
  obtain ⟨hg, hn⟩ := hg
  split at e
  · rename_i ms hs
    simp only [Option.bind_eq_bind, Option.bind_eq_some_iff] at e
    obtain ⟨es, h1, h2⟩ := e
    split at h2
    case isFalse => cases h2
    rename_i hk
    cases h2
    obtain ⟨a1, a2⟩ := trs_ok hr h1
    cases args with
    | nil => exact absurd hk.2 (by decide)
    | cons a as => exact s_call (h.sig x ms hs) h.room h.tk (h.gl hg) (nm_d hn).1 a1 a2 hk.1
  · split at e
    · rename_i hx
      subst hx
      split at e
      · rename_i a t pt
        simp only [Option.bind_eq_bind, Option.bind_eq_some_iff] at e
        obtain ⟨t', h1, a', h2, h3⟩ := e
        split at h3
        case isFalse => cases h3
        rename_i hk
        cases h3
        have et := tyOf_eq h1
        subst et
        exact s_isi t' (hr a a' h2) (pl_star hk.2) (h.gl hg) (h.blt _ (by decide +kernel)) (h.gl hk.1) (h.blt _ (by cases t' <;> decide +kernel))
      · cases e
    · split at e
      · rename_i a hs
        simp only [Option.bind_eq_bind, Option.bind_eq_some_iff] at e
        obtain ⟨a', h1, h3⟩ := e
        split at h3
        case isFalse => cases h3
        rename_i hk
        cases h3
        obtain ⟨rfl, p, q, rfl⟩ := setArg_ok hs
        have fe : (fun ρ => (ev G a' ρ).bind fun x => bltD .sset [x]) = ev G (.blt .sset (.cons a' .nil)) := by
          funext ρ
          show _ = ((ev G a' ρ).bind fun d => (M.ok []).bind fun ds => .ok (d :: ds)).bind fun ds => bltD .sset ds
          cases ev G a' ρ <;> rfl
        have := s_sset (ps := px) (pq := p) (p1 := q) (p2 := pos) h.calm h.room (hr a a' h1) (pl_star hk.2) (h.gl hg) (h.blt _ (by decide +kernel)) (h.gl hk.1) (h.blt _ (by decide +kernel))
        rw [fe] at this
        exact this
      split at e
      · rename_i b a hs
        simp only [Option.bind_eq_bind, Option.bind_eq_some_iff] at e
        obtain ⟨a', h1, h3⟩ := e
        split at h3
        case isFalse => cases h3
        rename_i hk
        cases h3
        obtain ⟨y, p, q, rfl, hb⟩ := rngArg_ok hs
        have fe : (fun ρ => (ev G a' ρ).bind fun x => bltD b [x]) = ev G (.blt b (.cons a' .nil)) := by
          funext ρ
          show _ = ((ev G a' ρ).bind fun d => (M.ok []).bind fun ds => .ok (d :: ds)).bind fun ds => bltD b ds
          cases ev G a' ρ <;> rfl
        rcases hb with ⟨rfl, rfl, rfl⟩ | ⟨rfl, rfl, rfl⟩ | ⟨rfl, rfl, rfl⟩ | ⟨rfl, rfl, rfl⟩
        · have := s_trng (p := px) (p2 := p) (q := q) (pos := pos) h.calm (hr a a' h1) (pl_star hk.2) (h.gl hg) (h.blt _ (by decide +kernel)) (h.gl hk.1) (h.blt _ (by decide +kernel))
          rw [fe] at this
          exact this
        · have := s_lrng (p := px) (p2 := p) (q := q) (pos := pos) h.calm (hr a a' h1) (pl_star hk.2) (h.gl hg) (h.blt _ (by decide +kernel)) (h.gl hk.1) (h.blt _ (by decide +kernel))
          rw [fe] at this
          exact this
        · have := s_lset (p := px) (p2 := p) (q := q) (pos := pos) h.calm (hr a a' h1) (pl_star hk.2) (h.gl hg) (h.blt _ (by decide +kernel)) (h.gl hk.1) (h.blt _ (by decide +kernel))
          rw [fe] at this
          exact this
        · have := s_order (ps := px) (pq := p) (p1 := q) (p2 := pos) h.calm h.room (hr a a' h1) (pl_star hk.2) (h.gl hg) (h.blt _ (by decide +kernel)) (h.gl hk.1) (h.blt _ (by decide +kernel))
          rw [fe] at this
          exact this
      simp only [Option.bind_eq_bind, Option.bind_eq_some_iff] at e
      obtain ⟨b, h1, es, h2, h3⟩ := e
      cases h3
      obtain ⟨a1, a2⟩ := trs_ok hr h2
      cases args with
      | nil =>
        exfalso
        unfold bltOf at h1
        simp at h1
      | cons a as => exact blt_snd h (h.gl hg) h1 a1 a2
/-! targets -/
def trNm (C : Ct) : Expr → Option Nat
  | .Name x _ => do
    let i ← ixOf C.N x
    if C.loc x = true then some i else none
  | _ => none
def trNms (C : Ct) : List Expr → Option (List Nat)
  | [] => some []
  | e :: es => do
    let i ← trNm C e
    let is ← trNms C es
    some (i :: is)
def trTg (C : Ct) : Expr → Option Tg
  | .Name x p => (trNm C (.Name x p)).map .nm
  | .Tuple es _ _ => (trNms C es).map .tup
  | _ => none
theorem trNm_ok {C : Ct} {X : Cx} {W : WX} {j : Nat} {G : Gm} {e : Expr} {i : Nat} (h : CxOk C X W j G) (q : trNm C e = some i) : PG X e (gName i) ∧ ∃ x p, e = .Name x p := by
  cases e <;> first | (cases q; done) | skip
  rename_i x p
  unfold trNm at q
  simp only [Option.bind_eq_bind, Option.bind_eq_some_iff] at q
  obtain ⟨k, h1, h2⟩ := q
  split at h2
  case isFalse => cases h2
  rename_i hl
  cases h2
  obtain ⟨l1, l2⟩ := h.loc hl
  exact ⟨pg_name h.nd (h.ix h1) l1 l2, x, p, rfl⟩
theorem trNms_ok {C : Ct} {X : Cx} {W : WX} {j : Nat} {G : Gm} (h : CxOk C X W j G) : ∀ {es : List Expr} {is : List Nat}, trNms C es = some is → PGs X es (gNms is) ∧ assignEach es X.env = es.map (fun e => (false, assign e X.env)) ∧ es.length = is.length
  | [], is, q => by cases q; exact ⟨pgs_nil, rfl, rfl⟩
  | e :: es, is, q => by
    unfold trNms at q
    simp only [Option.bind_eq_bind, Option.bind_eq_some_iff] at q
    obtain ⟨i, h1, is', h2, h3⟩ := q
    cases h3
    obtain ⟨g1, x, p, rfl⟩ := trNm_ok h h1
    obtain ⟨g2, a2, l2⟩ := trNms_ok h h2
    refine ⟨pgs_cons g1 g2 rfl, ?_, by rw [List.length_cons, List.length_cons, l2]⟩
    show (false, assign (.Name x p) X.env) :: assignEach es X.env = _
    rw [a2]
    rfl
theorem trTg_ok {C : Ct} {X : Cx} {W : WX} {j : Nat} {G : Gm} {e : Expr} {t : Tg} (h : CxOk C X W j G) (q : trTg C e = some t) : PG X e (gT X.K t) := by
  cases e <;> first | (cases q; done) | skip
  · unfold trTg at q
    rw [Option.map_eq_some_iff] at q
    obtain ⟨i, h1, rfl⟩ := q
    exact (trNm_ok h h1).1
  · rename_i es k p
    unfold trTg at q
    rw [Option.map_eq_some_iff] at q
    obtain ⟨is, h1, rfl⟩ := q
    obtain ⟨g, a, l⟩ := trNms_ok h h1
    refine pg_tup h.calm g (by rw [a, List.length_map, l]) ?_
    rw [a, List.findIdx?_eq_none_iff]
    intro y hy
    obtain ⟨z, _, rfl⟩ := List.mem_map.mp hy
    rfl
/-! iterators -/
def isTup : Expr → Bool
  | .Tuple _ _ _ => true
  | _ => false
def okB (b : Bool) (e : E) : Bool := b || ne2 e
def trI (b : Bool) (r : Expr → Option E) (C : Ct) (tg : Expr) (it : Expr) : Option It :=
  if pl it = true then match it with
    | .Call (.Name f _) [a] [] _ =>
      if f = ("range" : Str) then do
        let a' ← r a
        if C.gl f = true ∧ pl a = true then some (.rng1 a') else none
      else if f = ("enumerate" : Str) then do
        let a' ← r a
        if C.gl f = true ∧ pl a = true ∧ isTup tg = true ∧ okB b a' = true then some (.enum a') else none
      else do
        let e' ← r it
        if okB b e' = true then some (.seq e') else none
    | .Call (.Name f _) [a, c] [] _ =>
      if f = ("range" : Str) then do
        let a' ← r a
        let c' ← r c
        if C.gl f = true ∧ pl a = true ∧ pl c = true then some (.rng2 a' c') else none
      else if f = ("zip" : Str) then do
        let a' ← r a
        let c' ← r c
        if C.gl f = true ∧ pl a = true ∧ pl c = true ∧ isTup tg = true ∧ okB b a' = true ∧ okB b c' = true then some (.zip a' c') else none
      else do
        let e' ← r it
        if okB b e' = true then some (.seq e') else none
    | .Call (.Name f _) [a] [⟨some y, .Constant (.int c) _ _, _⟩] _ =>
      if f = ("enumerate" : Str) ∧ y = ("start" : Str) then do
        let a' ← r a
        if C.gl f = true ∧ pl a = true ∧ isTup tg = true ∧ okB b a' = true ∧ inR c = true then some (.enumK c a') else none
      else none
    | _ => do
      let e' ← r it
      if okB b e' = true then some (.seq e') else none
  else none
theorem okB_of {b : Bool} {e : E} (h : okB b e = true) : b = true ∨ fl e = 0 ∨ fl e = 1 := by
  unfold okB at h
  rw [Bool.or_eq_true] at h
  exact h.imp id ne2_of
theorem trI_ok {b : Bool} {r : Expr → Option E} {C : Ct} {tg it : Expr} {it' : It} {X : Cx} {W : WX} {j : Nat} {G : Gm} (h : CxOk C X W j G) (hr : ∀ e e', r e = some e' → PE X e (TE' X W (fl e') (ev G e')))
    (q : trI b r C tg it = some it') : PI X tg it (TI' X W b (evi G it')) ∧ pl it = true := by
  unfold trI at q
  split at q
  case isFalse => cases q
  rename_i hp
  refine ⟨?_, hp⟩
  have fin : ∀ {e : Expr}, (do let e' ← r e; if okB b e' = true then some (.seq e') else none) = some it' → PI X tg e (TI' X W b (evi G it')) := by
    intro e q
    simp only [Option.bind_eq_bind, Option.bind_eq_some_iff] at q
    obtain ⟨e', h1, h2⟩ := q
    split at h2
    case isFalse => cases h2
    rename_i hb
    cases h2
    exact i_seq (okB_of hb) (hr e e' h1)
  have tup : isTup tg = true → ∃ es k p, tg = .Tuple es k p := fun z => by cases tg <;> first | exact ⟨_, _, _, rfl⟩ | cases z
  split at q
  · rename_i f pf a pc
    split at q
    · rename_i e
      subst e
      simp only [Option.bind_eq_bind, Option.bind_eq_some_iff] at q
      obtain ⟨a', h1, h2⟩ := q
      split at h2
      case isFalse => cases h2
      rename_i hb
      cases h2
      exact i_rng1 (h.gl hb.1) (h.blt _ (by decide +kernel)) (hr a a' h1) (pl_star hb.2)
    · split at q
      · rename_i e
        subst e
        simp only [Option.bind_eq_bind, Option.bind_eq_some_iff] at q
        obtain ⟨a', h1, h2⟩ := q
        split at h2
        case isFalse => cases h2
        rename_i hb
        cases h2
        obtain ⟨es, k, p, rfl⟩ := tup hb.2.2.1
        exact i_enum (h.gl hb.1) (h.blt _ (by decide +kernel)) (okB_of hb.2.2.2) (hr a a' h1) (pl_star hb.2.1)
      · exact fin q
  · rename_i f pf a c pc
    split at q
    · rename_i e
      subst e
      simp only [Option.bind_eq_bind, Option.bind_eq_some_iff] at q
      obtain ⟨a', h1, c', h1', h2⟩ := q
      split at h2
      case isFalse => cases h2
      rename_i hb
      cases h2
      exact i_rng2 (h.gl hb.1) (h.blt _ (by decide +kernel)) (hr a a' h1) (hr c c' h1') (pl_star hb.2.1) (pl_star hb.2.2)
    · split at q
      · rename_i e
        subst e
        simp only [Option.bind_eq_bind, Option.bind_eq_some_iff] at q
        obtain ⟨a', h1, c', h1', h2⟩ := q
        split at h2
        case isFalse => cases h2
        rename_i hb
        cases h2
        obtain ⟨es, k, p, rfl⟩ := tup hb.2.2.2.1
        exact i_zip (h.gl hb.1) (h.blt _ (by decide +kernel)) (okB_of hb.2.2.2.2.1) (okB_of hb.2.2.2.2.2) (hr a a' h1) (hr c c' h1') (pl_star hb.2.1) (pl_star hb.2.2.1)
      · exact fin q
  · split at q
    case isFalse => cases q
    rename_i e
    obtain ⟨rfl, rfl⟩ := e
    simp only [Option.bind_eq_bind, Option.bind_eq_some_iff] at q
    obtain ⟨a', h1, h2⟩ := q
    split at h2
    case isFalse => cases h2
    rename_i hb
    cases h2
    obtain ⟨es, k, p, rfl⟩ := tup hb.2.2.1
    exact i_enumK (h.gl hb.1) (h.blt _ (by decide +kernel)) (okB_of hb.2.2.2.1) (hr _ a' h1) (pl_star hb.2.1) hb.2.2.2.2
  · exact fin q
end DL

/-! DTr2: expressions and tests are turned. -/
namespace DL
open PySem PySem.Spec PyProof.Rows L2
abbrev Rc := Ct → Expr → Option E
def ownOf (N : List Str) (names : List (Str × NameKind)) : List (Str × Nat) := names.filterMap fun y => match y.2 with
  | .local => (ixOf N y.1).map fun i => (y.1, i)
  | .cell => (ixOf N y.1).map fun i => (y.1, i)
  | _ => none
def trC (rT : Rc) (C : Ct) : List Expr → Option Eo
  | [] => some .no
  | [c] => (rT C c).map .yes
  | _ => none
structure LcP where
  elt : E
  tg : Tg
  it : It
  c : Eo
  own : List (Str × Nat)
def trLc (rE rT : Rc) (C : Ct) (elt tg iter : Expr) (ifs : List Expr) (scope : Scope) : Option LcP :=
  let own := ownOf C.N scope.names
  if blkC C.N C.sc scope own = true then do
    let C' := C.blk scope
    let tg' ← trTg C' tg
    let it ← trI true (rE C) C tg iter
    let e' ← rE C' elt
    let c ← trC rT C' ifs
    if ((tgS tg').all fun i => decide (i ∈ own.map (·.2))) = true ∧ ne2 e' = true then some ⟨e', tg', it, c, own⟩ else none
  else none
theorem PTs.imp {X : Cx} {es : List Expr} {t t' : TT} (h : PTs X es t) (i : ∀ σ H Q, t' σ H Q → t σ H Q) : PTs X es t' := ⟨fun pins s σ H Q I q => h.run pins s σ H Q I (i σ H Q q)⟩
theorem trC_ok {rT : Rc} {C : Ct} {ifs : List Expr} {c : Eo} {X : Cx} {W : WX} {j : Nat} {G : Gm} (hT : ∀ C e e', rT C e = some e' → SndT C e e') (h : CxOk C X W j G) (q : trC rT C ifs = some c) : PTs X ifs (TT' X W (evc G c)) := by
  unfold trC at q
  split at q
  · cases q
    exact PTs.imp pts_nil fun σ H Q ⟨F0, H0, F, ρ, r, p⟩ => p F H (Grow.refl r.sub)
  · rw [Option.map_eq_some_iff] at q
    obtain ⟨e', h1, rfl⟩ := q
    exact pts_one (hT _ _ _ h1 X W j G h)
  · cases q
structure LcOk (C : Ct) (X : Cx) (W : WX) (G : Gm) (elt tg iter : Expr) (ifs : List Expr) (scope : Scope) (p : LcP) : Prop where
  hi : PI X tg iter (TI' X W true (evi G p.it))
  ok : BlkOk X.N X.env.scope scope p.own
  hin : ∀ i ∈ tgS p.tg, i ∈ p.own.map (·.2)
  hg : ∀ (s : Shared) (H : Hp) (c : Addr) (cl : List (Str × Addr)) (fp : List Addr), PG (X.blk s H scope (compEnvC scope cl c X.env) fp) tg (gT X.K p.tg)
  ht : ∀ (s : Shared) (H : Hp) (c : Addr) (cl : List (Str × Addr)) (fp : List Addr), PTs (X.blk s H scope (compEnvC scope cl c X.env) fp) ifs (TT' (X.blk s H scope (compEnvC scope cl c X.env) fp) W0 (evc G p.c))
  he : ∀ (s : Shared) (H : Hp) (c : Addr) (cl : List (Str × Addr)) (fp : List Addr), PE (X.blk s H scope (compEnvC scope cl c X.env) fp) elt (TE' (X.blk s H scope (compEnvC scope cl c X.env) fp) W0 0 (ev G p.elt))
  hs : ∀ x, foldedSetIterable iter X.env x = pure x
theorem trLc_ok {rE rT : Rc} {C : Ct} {elt tg iter : Expr} {ifs : List Expr} {scope : Scope} {p : LcP} {X : Cx} {W : WX} {j : Nat} {G : Gm} (hE : ∀ C e e', rE C e = some e' → SndE C e e') (hT : ∀ C e e', rT C e = some e' → SndT C e e') (h : CxOk C X W j G)
    (q : trLc rE rT C elt tg iter ifs scope = some p) : LcOk C X W G elt tg iter ifs scope p := by
  unfold trLc at q
  dsimp only at q
  split at q
  case isFalse => cases q
  rename_i hb
  simp only [Option.bind_eq_bind, Option.bind_eq_some_iff] at q
  obtain ⟨tg', h1, it, h2, e', h3, c, h4, h5⟩ := q
  split at h5
  case isFalse => cases h5
  rename_i hk
  cases h5
  obtain ⟨i1, i2⟩ := trI_ok h (fun e e' q => hE C e e' q X W j G h) h2
  refine ⟨i1, ?_, fun i hi => ?_, fun s H c cl fp => trTg_ok (h.blk scope s H c cl fp) h1, fun s H c cl fp => trC_ok hT (h.blk scope s H c cl fp) h4, fun s H c cl fp => s_share (ne2_of hk.2) (hE _ _ _ h3 _ _ _ _ (h.blk scope s H c cl fp)), pl_fsi i2 _⟩
  · rw [h.N, h.sc]; exact blkOk_by hb
  · have := List.all_eq_true.mp hk.1 i hi
    exact of_decide_eq_true this
def andE (r : Expr → Option E) : List Expr → Option E
  | [] => none
  | [a] => do
    let a' ← r a
    if ne2 a' = true then some a' else none
  | a :: b :: rest => do
    let a' ← r a
    let c ← andE r (b :: rest)
    some (.and a' c)
def orE (r : Expr → Option E) : List Expr → Option E
  | [] => none
  | [a] => do
    let a' ← r a
    if ne2 a' = true then some a' else none
  | a :: b :: rest => do
    let a' ← r a
    let c ← orE r (b :: rest)
    some (.or a' c)
def trO (r : Expr → Option E) : Option Expr → Option Eo
  | none => some .no
  | some e => (r e).map .yes
theorem trO_ok {r : Expr → Option E} {e : Option Expr} {o : Eo} {X : Cx} {W : WX} {G : Gm} (hr : ∀ e e', r e = some e' → PE X e (TE' X W (fl e') (ev G e'))) (q : trO r e = some o) : PO X e (TO' X W (evo G o)) := by
  cases e with
  | none => cases q; exact o_none
  | some e =>
    have q : (r e).map Eo.yes = some o := q
    rw [Option.map_eq_some_iff] at q
    obtain ⟨e', h1, rfl⟩ := q
    exact o_some (hr e e' h1)
def isStrE : E → Bool
  | .str _ => true
  | _ => false
theorem strE_or (G : Gm) {a b : E} (h : (isStrE a || isStrE b) = true) : (∀ ρ d, ev G a ρ = .ok d → ∃ s, d = .str s) ∨ ∀ ρ, NoEx (ev G b ρ) := by
  rw [Bool.or_eq_true] at h
  rcases h with h | h
  · cases a <;> first | cases h | skip
    rename_i s
    refine .inl fun ρ d e => ?_
    have e : M.ok (PyData.str s) = .ok d := e
    cases e
    exact ⟨s, rfl⟩
  · cases b <;> first | cases h | skip
    exact .inr fun ρ => noex_ok _
def isIntE : E → Bool
  | .int _ => true
  | .neg _ => true
  | _ => false
theorem intE_ok (G : Gm) {e : E} (h : isIntE e = true) : ∀ ρ d, ev G e ρ = .ok d → ∃ i, d = .int i := by
  cases e <;> first | cases h | skip
  · rename_i i
    intro ρ d q
    have q : M.ok (PyData.int i) = .ok d := q
    cases q
    exact ⟨i, rfl⟩
  · rename_i a
    intro ρ d q
    have q : ((ev G a ρ).bind fun x => match x with | .int i => M.ok (PyData.int (-i)) | _ => .bad) = .ok d := q
    cases e1 : ev G a ρ with
    | bad => rw [e1] at q; cases q
    | ex c fs => rw [e1] at q; cases q
    | ok x =>
      rw [e1] at q
      cases x <;> first | (cases q; done) | skip
      rename_i i
      have q : M.ok (PyData.int (-i)) = .ok d := q
      cases q
      exact ⟨_, rfl⟩
/-- a name whose slot holds a dict: its slot is told in the own ones as i + 1000 -/
def dicN (C : Ct) : Expr → Option Nat
  | .Name x _ => match ixOf C.N x with
    | some i => if decide (i + 1000 ∈ C.own) && nm x && C.vis x then some i else none
    | none => none
  | _ => none
theorem dicN_ok {C : Ct} {X : Cx} {W : WX} {j : Nat} {G : Gm} {e : Expr} {i : Nat} (h : CxOk C X W j G) (q : dicN C e = some i) : ∃ x p, e = .Name x p ∧ X.N[i]? = some x ∧ Vis X.env.scope x ∧ (x == ("__debug__" : Str)) = false ∧ (x == ("__classdict__" : Str)) = false := by
  unfold dicN at q
  split at q
  · rename_i x p
    split at q
    · rename_i i' hi
      split at q
      · rename_i hk
        cases q
        rw [Bool.and_eq_true, Bool.and_eq_true] at hk
        exact ⟨x, p, rfl, h.ix hi, h.vis hk.2, (nm_d hk.1.2).1, (nm_d hk.1.2).2⟩
      · cases q
    · cases q
  · cases q
theorem pl_nosl {e : Expr} (h : pl e = true) : NoSl e := fun o i => by cases e <;> first | rfl | cases h
def stepE (rE rT : Rc) (C : Ct) : Expr → Option E
  | .Constant .none _ _ => some .none
  | .Constant (.bool b) _ _ => some (.bl b)
  | .Constant (.int i) _ _ => some (.int i)
  | .Constant (.str s) _ _ => if PyData.canLay0 (.str s) = true then some (.str s) else none
  | .Name x _ => if nm x = true then match ixOf C.N x with
      | some i => if C.vis x = true then some (if i ∈ C.own then .bvar i else .var i) else none
      | none => match C.gis x with
        | some (.int i) => if C.gl x = true then some (.gint x i) else none
        | some (.str s) => if C.gl x = true then some (.gstr x s) else none
        | none => none
    else none
  | .Tuple es _ _ => do
    let es' ← trs (rE C) es
    if all2 es' = true then some (.tup es') else none
  | .List es _ => do
    let es' ← trs (rE C) es
    if all2 es' = true then some (.lst es') else none
  | .BinOp a o b _ => do
    let o' ← opOf o
    let a' ← rE C a
    let b' ← rE C b
    some (.bin o' a' b')
  | .UnaryOp .Not a _ => do
    let a' ← rE C a
    some (.not a')
  | .UnaryOp .USub a _ => do
    let a' ← rE C a
    some (.neg a')
  | .Compare a [.In] [b] _ => match dicN C b with
    | some i => do
      let a' ← rE C a
      some (.din a' i)
    | none => if pl b = true then do
        let a' ← rE C a
        let b' ← rE C b
        some (.cmp .mem a' b')
      else none
  | .Compare a [o] [b] _ => if pl b = true then do
      let o' ← copT b o
      let a' ← rE C a
      let b' ← rE C b
      some (.cmp o' a' b')
    else none
  | .Compare a [o, p] [b, c] _ => if pl c = true then do
      let o' ← copT b o
      let p' ← copT c p
      let a' ← rE C a
      let b' ← rE C b
      let c' ← rE C c
      some (.chain o' p' a' b' c')
    else none
  | .BoolOp .And (a :: b :: rest) _ => andE (rE C) (a :: b :: rest)
  | .BoolOp .Or (a :: b :: rest) _ => orE (rE C) (a :: b :: rest)
  | .IfExp c a b _ => do
    let c' ← rT C c
    let a' ← rE C a
    let b' ← rE C b
    if ne2 a' = true ∧ ne2 b' = true then some (.ite c' a' b') else none
  | .Call (.Name x _) args [] _ => trCall (rE C) C x args
  | .Call (.Name x _) [e] [⟨some y, de, _⟩] _ => if x = ("max" : Str) ∧ y = ("default" : Str) ∧ C.gl x = true ∧ pl e = true then do
      let e' ← rE C e
      let d' ← rE C de
      if isIntE d' then some (.blt .maxd (.cons e' (.cons d' .nil))) else none
    else none
  | .Call (.Attribute o m ap) [e] [] cp => if okBase o = true ∧ pl e = true ∧ (ap.endLine == cp.line) = true then
      if m = ("join" : Str) then do
        let o' ← rE C o
        let e' ← rE C e
        if isStrE o' || isStrE e' then some (.blt .join (.cons o' (.cons e' .nil))) else none
      else if m = ("split" : Str) then do
        let o' ← rE C o
        let e' ← rE C e
        if isStrE o' || isStrE e' then some (.blt .split (.cons o' (.cons e' .nil))) else none
      else none
    else none
  | .JoinedStr (a :: b :: rest) _ => (trP (rE C) (a :: b :: rest)).map fun es => .blt .cat es
  | .Subscript a (.Slice lo hi none _) _ => do
    let a' ← rE C a
    let l ← trO (rE C) lo
    let u ← trO (rE C) hi
    some (.slc a' l u)
  | .Subscript a i _ => if pl i = true then match dicN C a with
      | some n => do
        let i' ← rE C i
        some (.dgt n i')
      | none => do
        let a' ← rE C a
        let i' ← rE C i
        some (.idx a' i')
    else none
  | .ListComp elt [⟨tg, iter, ifs, 0⟩] scope _ => do
    let p ← trLc rE rT C elt tg iter ifs scope
    some (.lc p.elt p.tg p.it p.c p.own)
  | _ => none
def stepT (rE rT : Rc) (C : Ct) : Expr → Option E
  | .UnaryOp .Not a _ => do
    let a' ← rT C a
    some (.not a')
  | .BoolOp .And es _ => andE (rT C) es
  | .BoolOp .Or es _ => orE (rT C) es
  | .Compare a [.In] [b] _ => match dicN C b with
    | some i => do
      let a' ← rE C a
      some (.din a' i)
    | none => if pl b = true then do
        let a' ← rE C a
        let b' ← rE C b
        some (.cmp .mem a' b')
      else none
  | .Compare a [o] [b] _ => if pl b = true then do
      let o' ← copT b o
      let a' ← rE C a
      let b' ← rE C b
      some (.cmp o' a' b')
    else none
  | .Compare a [o, p] [b, c] _ => if pl c = true then do
      let o' ← copT b o
      let p' ← copT c p
      let a' ← rE C a
      let b' ← rE C b
      let c' ← rE C c
      some (.chain o' p' a' b' c')
    else none
  | .Name x p => rE C (.Name x p)
  | .Call f as ks p => rE C (.Call f as ks p)
  | .Subscript a i p => rE C (.Subscript a i p)
  | .Constant c k p => rE C (.Constant c k p)
  | _ => none
def tr : Nat → Bool → Ct → Expr → Option E
  | 0, _, _, _ => none
  | n + 1, b, C, e => if b = true then stepT (tr n false) (tr n true) C e else stepE (tr n false) (tr n true) C e
section
variable {X : Cx} {W : WX} {j : Nat} {G : Gm} {C : Ct} {pos : Pos}
theorem andE_ok {r : Expr → Option E} (hr : ∀ e e', r e = some e' → PE X e (TE' X W (fl e') (ev G e'))) : ∀ {es : List Expr} {e' : E}, andE r es = some e' → PE X (.BoolOp .And es pos) (TE' X W 0 (ev G e'))
  | [], e', q => by cases q
  | [a], e', q => by
    unfold andE at q
    simp only [Option.bind_eq_bind, Option.bind_eq_some_iff] at q
    obtain ⟨a', h1, h2⟩ := q
    split at h2
    case isFalse => cases h2
    rename_i hk
    cases h2
    exact pe_one (s_share (ne2_of hk) (hr _ _ h1))
  | a :: b :: rest, e', q => by
    unfold andE at q
    simp only [Option.bind_eq_bind, Option.bind_eq_some_iff] at q
    obtain ⟨a', h1, c, h2, h3⟩ := q
    cases h3
    exact s_and (hr _ _ h1) (andE_ok hr h2)
theorem orE_ok {r : Expr → Option E} (hr : ∀ e e', r e = some e' → PE X e (TE' X W (fl e') (ev G e'))) : ∀ {es : List Expr} {e' : E}, orE r es = some e' → PE X (.BoolOp .Or es pos) (TE' X W 0 (ev G e'))
  | [], e', q => by cases q
  | [a], e', q => by
    unfold orE at q
    simp only [Option.bind_eq_bind, Option.bind_eq_some_iff] at q
    obtain ⟨a', h1, h2⟩ := q
    split at h2
    case isFalse => cases h2
    rename_i hk
    cases h2
    exact pe_one (s_share (ne2_of hk) (hr _ _ h1))
  | a :: b :: rest, e', q => by
    unfold orE at q
    simp only [Option.bind_eq_bind, Option.bind_eq_some_iff] at q
    obtain ⟨a', h1, c, h2, h3⟩ := q
    cases h3
    exact s_or (hr _ _ h1) (orE_ok hr h2)
theorem andT_ok {r : Expr → Option E} (hr : ∀ e e', r e = some e' → PT X e (TT' X W fun ρ => evB (ev G e' ρ))) : ∀ {es : List Expr} {e' : E}, andE r es = some e' → PW X (.BoolOp .And es pos) (TT' X W fun ρ => evB (ev G e' ρ))
  | [], e', q => by cases q
  | [a], e', q => by
    unfold andE at q
    simp only [Option.bind_eq_bind, Option.bind_eq_some_iff] at q
    obtain ⟨a', h1, h2⟩ := q
    split at h2
    case isFalse => cases h2
    cases h2
    exact pw_and1 (hr _ _ h1)
  | a :: b :: rest, e', q => by
    unfold andE at q
    simp only [Option.bind_eq_bind, Option.bind_eq_some_iff] at q
    obtain ⟨a', h1, c, h2, h3⟩ := q
    cases h3
    exact w_and (fa := ev G a') (fb := ev G c) (hr _ _ h1) (andT_ok hr h2)
theorem orT_ok {r : Expr → Option E} (hr : ∀ e e', r e = some e' → PT X e (TT' X W fun ρ => evB (ev G e' ρ))) : ∀ {es : List Expr} {e' : E}, orE r es = some e' → PW X (.BoolOp .Or es pos) (TT' X W fun ρ => evB (ev G e' ρ))
  | [], e', q => by cases q
  | [a], e', q => by
    unfold orE at q
    simp only [Option.bind_eq_bind, Option.bind_eq_some_iff] at q
    obtain ⟨a', h1, h2⟩ := q
    split at h2
    case isFalse => cases h2
    cases h2
    exact pw_or1 (hr _ _ h1)
  | a :: b :: rest, e', q => by
    unfold orE at q
    simp only [Option.bind_eq_bind, Option.bind_eq_some_iff] at q
    obtain ⟨a', h1, c, h2, h3⟩ := q
    cases h3
    exact w_or (fa := ev G a') (fb := ev G c) (hr _ _ h1) (orT_ok hr h2)
end
theorem andE_fl {r : Expr → Option E} {a b : Expr} {rest : List Expr} {e' : E} (q : andE r (a :: b :: rest) = some e') : fl e' = 0 := by
  unfold andE at q
  simp only [Option.bind_eq_bind, Option.bind_eq_some_iff] at q
  obtain ⟨a', h1, c, h2, h3⟩ := q
  cases h3
  rfl
theorem orE_fl {r : Expr → Option E} {a b : Expr} {rest : List Expr} {e' : E} (q : orE r (a :: b :: rest) = some e') : fl e' = 0 := by
  unfold orE at q
  simp only [Option.bind_eq_bind, Option.bind_eq_some_iff] at q
  obtain ⟨a', h1, c, h2, h3⟩ := q
  cases h3
  rfl
theorem lm2 {o p : CmpOp} {b c : Expr} (h : pl c = true) : lastMarks [o, p] [b, c] = false := pl_behind h p
theorem stepE_ok {rE rT : Rc} (hE : ∀ C e e', rE C e = some e' → SndE C e e') (hT : ∀ C e e', rT C e = some e' → SndT C e e') {C : Ct} {e : Expr} {e' : E} (q : stepE rE rT C e = some e') : SndE C e e' := by
  intro X W j G h
  have hr : ∀ e e', rE C e = some e' → PE X e (TE' X W (fl e') (ev G e')) := fun e e' q => hE C e e' q X W j G h
  have ht : ∀ e e', rT C e = some e' → PT X e (TT' X W fun ρ => evB (ev G e' ρ)) := fun e e' q => hT C e e' q X W j G h
  unfold stepE at q
  split at q
  · cases q; exact tri pe_non (fun F => .none) rfl
  · cases q; exact tri pe_bl (fun F => .bool _) rfl
  · cases q; exact tri pe_int (fun F => .int _) rfl
  · split at q
    case isFalse => cases q
    rename_i hs
    cases q; exact tri pe_str (fun F => ⟨.str _, hs⟩) rfl
  · split at q
    case isFalse => cases q
    rename_i hn
    split at q
    · rename_i i hi
      split at q
      case isFalse => cases q
      rename_i hv
      split at q
      · cases q; exact s_bvar (h.ix hi) (h.vis hv) (nm_d hn).1 (nm_d hn).2
      · cases q; exact s_var (h.ix hi) (h.vis hv) (nm_d hn).1 (nm_d hn).2
    · split at q
      · rename_i i hi
        split at q
        case isFalse => cases q
        rename_i hg
        cases q
        obtain ⟨t, gm⟩ := h.gis _ _ hi
        exact tri (pe_glob (v := .int i) (h.gl hg) gm ⟨t, rfl⟩ (nm_d hn).1) (fun F => .int _) rfl
      · rename_i i hi
        split at q
        case isFalse => cases q
        rename_i hg
        cases q
        obtain ⟨hs, t, gm⟩ := h.gis _ _ hi
        exact tri (pe_glob (v := .str i) (h.gl hg) gm ⟨t, rfl⟩ (nm_d hn).1) (fun F => ⟨.str _, by rw [PyData.canLay0]; exact hs⟩) rfl
      · cases q
  · simp only [Option.bind_eq_bind, Option.bind_eq_some_iff] at q
    obtain ⟨es', h1, h2⟩ := q
    split at h2
    case isFalse => cases h2
    rename_i hk
    cases h2
    exact s_tup (trs_ok hr h1).1 (all2_ok hk)
  · simp only [Option.bind_eq_bind, Option.bind_eq_some_iff] at q
    obtain ⟨es', h1, h2⟩ := q
    split at h2
    case isFalse => cases h2
    rename_i hk
    cases h2
    exact s_lst (trs_ok hr h1).1 (all2_ok hk)
  · simp only [Option.bind_eq_bind, Option.bind_eq_some_iff] at q
    obtain ⟨o', h0, a', h1, b', h2, h3⟩ := q
    cases h3
    rw [opOf_eq h0]
    exact s_bin o' (hr _ _ h1) (hr _ _ h2)
  · simp only [Option.bind_eq_bind, Option.bind_eq_some_iff] at q
    obtain ⟨a', h1, h3⟩ := q
    cases h3
    exact s_not (hr _ _ h1)
  · simp only [Option.bind_eq_bind, Option.bind_eq_some_iff] at q
    obtain ⟨a', h1, h3⟩ := q
    cases h3
    exact s_neg (hr _ _ h1)
  · split at q
    · rename_i i hd
      simp only [Option.bind_eq_bind, Option.bind_eq_some_iff] at q
      obtain ⟨a', h1, h3⟩ := q
      cases h3
      obtain ⟨x, p, rfl, d1, d2, d3, d4⟩ := dicN_ok h hd
      exact s_din h.room (hr _ _ h1) d1 d2 d3 d4
    · split at q
      case isFalse => cases q
      rename_i hp
      simp only [Option.bind_eq_bind, Option.bind_eq_some_iff] at q
      obtain ⟨a', h1, b', h2, h3⟩ := q
      cases h3
      exact s_share (.inr rfl) (s_cmp h.room .mem (hr _ _ h1) (hr _ _ h2) (pl_behind hp _))
  · split at q
    case isFalse => cases q
    rename_i hp
    simp only [Option.bind_eq_bind, Option.bind_eq_some_iff] at q
    obtain ⟨o', h0, a', h1, b', h2, h3⟩ := q
    cases h3
    rw [copT_eq h0]
    exact s_share (.inr rfl) (s_cmp h.room o' (hr _ _ h1) (hr _ _ h2) (pl_behind hp _))
  · split at q
    case isFalse => cases q
    rename_i hp
    simp only [Option.bind_eq_bind, Option.bind_eq_some_iff] at q
    obtain ⟨o', h0, p', h0', a', h1, b', h2, c', h3, h4⟩ := q
    cases h4
    rw [copT_eq h0, copT_eq h0']
    exact s_share (.inr rfl) (s_chain h.room o' p' (hr _ _ h1) (hr _ _ h2) (hr _ _ h3) (lm2 hp))
  · rw [andE_fl q]
    exact andE_ok hr q
  · rw [orE_fl q]
    exact orE_ok hr q
  · simp only [Option.bind_eq_bind, Option.bind_eq_some_iff] at q
    obtain ⟨c', h0, a', h1, b', h2, h3⟩ := q
    split at h3
    case isFalse => cases h3
    rename_i hk
    cases h3
    exact s_ite (ht _ _ h0) (s_share (ne2_of hk.1) (hr _ _ h1)) (s_share (ne2_of hk.2) (hr _ _ h2))
  · exact trCall_ok h hr q
  · split at q
    case isFalse => cases q
    rename_i hk
    obtain ⟨rfl, rfl, hg, hp⟩ := hk
    simp only [Option.bind_eq_bind, Option.bind_eq_some_iff] at q
    obtain ⟨e', h1, d', h2, h3⟩ := q
    split at h3
    case isFalse => cases h3
    rename_i hi
    cases h3
    have two : (fun ρ => (ev G e' ρ).bind fun x => (ev G d' ρ).bind fun y => bltD .maxd [x, y]) = ev G (.blt .maxd (.cons e' (.cons d' .nil))) := by
      funext ρ
      show _ = ((ev G e' ρ).bind fun d => ((ev G d' ρ).bind fun d => (M.ok []).bind fun ds => .ok (d :: ds)).bind fun ds => .ok (d :: ds)).bind fun ds => bltD .maxd ds
      cases ev G e' ρ <;> first | rfl | (cases ev G d' ρ <;> rfl)
    show PE X _ (TE' X W 1 (ev G (.blt .maxd (.cons e' (.cons d' .nil)))))
    rw [← two]
    exact s_maxd (W := W) h.calm h.room (hr _ _ h1) (hr _ _ h2) (pl_star hp) (h.gl hg) (h.blt _ (by decide +kernel)) (intE_ok G hi)
  · split at q
    case isFalse => cases q
    rename_i hk
    have two : ∀ (b : Blt) (o' e' : E), (fun ρ => (ev G o' ρ).bind fun x => (ev G e' ρ).bind fun y => bltD b [x, y]) = ev G (.blt b (.cons o' (.cons e' .nil))) := by
      intro b o' e'
      funext ρ
      show _ = ((ev G o' ρ).bind fun d => ((ev G e' ρ).bind fun d => (M.ok []).bind fun ds => .ok (d :: ds)).bind fun ds => .ok (d :: ds)).bind fun ds => bltD b ds
      cases ev G o' ρ <;> first | rfl | (cases ev G e' ρ <;> rfl)
    split at q
    · rename_i e1
      subst e1
      simp only [Option.bind_eq_bind, Option.bind_eq_some_iff] at q
      obtain ⟨o', h1, e', h2, h3⟩ := q
      split at h3
      case isFalse => cases h3
      rename_i hs
      cases h3
      have := s_join (W := W) (hr _ _ h1) (hr _ _ h2) hk.1 (pl_star hk.2.1) hk.2.2 (strE_or G hs)
      rw [two] at this
      exact this
    · split at q
      · rename_i e1
        subst e1
        simp only [Option.bind_eq_bind, Option.bind_eq_some_iff] at q
        obtain ⟨o', h1, e', h2, h3⟩ := q
        split at h3
        case isFalse => cases h3
        rename_i hs
        cases h3
        have := s_split (W := W) (hr _ _ h1) (hr _ _ h2) hk.1 (pl_star hk.2.1) hk.2.2 (strE_or G hs)
        rw [two] at this
        exact this
      · cases q
  · rw [Option.map_eq_some_iff] at q
    obtain ⟨es, h1, rfl⟩ := q
    obtain ⟨a1, a2⟩ := trP_ok hr h1
    exact s_fstr a1 a2
  · simp only [Option.bind_eq_bind, Option.bind_eq_some_iff] at q
    obtain ⟨a', h0, l, h1, u, h2, h3⟩ := q
    cases h3
    exact s_slc (hr _ _ h0) (trO_ok hr h1) (trO_ok hr h2)
  · split at q
    case isFalse => cases q
    rename_i hp
    split at q
    · rename_i n hd
      simp only [Option.bind_eq_bind, Option.bind_eq_some_iff] at q
      obtain ⟨i', h1, h3⟩ := q
      cases h3
      obtain ⟨x, p, rfl, d1, d2, d3, d4⟩ := dicN_ok h hd
      exact s_dgt h.room (hr _ _ h1) (pl_nosl hp) d1 d2 d3 d4
    · simp only [Option.bind_eq_bind, Option.bind_eq_some_iff] at q
      obtain ⟨a', h0, i', h1, h3⟩ := q
      cases h3
      exact s_idx (hr _ _ h0) (hr _ _ h1) (pl_ix hp)
  · simp only [Option.bind_eq_bind, Option.bind_eq_some_iff] at q
    obtain ⟨p, h0, h3⟩ := q
    cases h3
    have k := trLc_ok hE hT h h0
    exact s_lc h.calm h.nd k.hi k.ok k.hin k.hg k.ht k.he k.hs
  · cases q
theorem stepT_ok {rE rT : Rc} (hE : ∀ C e e', rE C e = some e' → SndE C e e') (hT : ∀ C e e', rT C e = some e' → SndT C e e') {C : Ct} {e : Expr} {e' : E} (q : stepT rE rT C e = some e') : SndT C e e' := by
  intro X W j G h
  have hr : ∀ e e', rE C e = some e' → PE X e (TE' X W (fl e') (ev G e')) := fun e e' q => hE C e e' q X W j G h
  have ht : ∀ e e', rT C e = some e' → PT X e (TT' X W fun ρ => evB (ev G e' ρ)) := fun e e' q => hT C e e' q X W j G h
  unfold stepT at q
  split at q
  · simp only [Option.bind_eq_bind, Option.bind_eq_some_iff] at q
    obtain ⟨a', h1, h3⟩ := q
    cases h3
    exact t_not (fa := ev G a') (ht _ _ h1)
  · exact (andT_ok ht q).pt
  · exact (orT_ok ht q).pt
  · split at q
    · rename_i i hd
      simp only [Option.bind_eq_bind, Option.bind_eq_some_iff] at q
      obtain ⟨a', h1, h3⟩ := q
      cases h3
      obtain ⟨x, p, rfl, d1, d2, d3, d4⟩ := dicN_ok h hd
      exact t_din h.room (hr _ _ h1) d1 d2 d3 d4
    · split at q
      case isFalse => cases q
      rename_i hp
      simp only [Option.bind_eq_bind, Option.bind_eq_some_iff] at q
      obtain ⟨a', h1, b', h2, h3⟩ := q
      cases h3
      exact t_cmp h.room .mem (hr _ _ h1) (hr _ _ h2) (pl_behind hp _)
  · split at q
    case isFalse => cases q
    rename_i hp
    simp only [Option.bind_eq_bind, Option.bind_eq_some_iff] at q
    obtain ⟨o', h0, a', h1, b', h2, h3⟩ := q
    cases h3
    rw [copT_eq h0]
    exact t_cmp h.room o' (hr _ _ h1) (hr _ _ h2) (pl_behind hp _)
  · split at q
    case isFalse => cases q
    rename_i hp
    simp only [Option.bind_eq_bind, Option.bind_eq_some_iff] at q
    obtain ⟨o', h0, p', h0', a', h1, b', h2, c', h3, h4⟩ := q
    cases h4
    rw [copT_eq h0, copT_eq h0']
    exact t_chain h.room o' p' (hr _ _ h1) (hr _ _ h2) (hr _ _ h3) (lm2 hp)
  · exact t_val (hr _ _ q) fun _ => rfl
  · exact t_val (hr _ _ q) fun _ => rfl
  · exact t_val (hr _ _ q) fun _ => rfl
  · exact t_val (hr _ _ q) fun _ => rfl
  · cases q
theorem tr_ok : ∀ (n : Nat), (∀ C e e', tr n false C e = some e' → SndE C e e') ∧ (∀ C e e', tr n true C e = some e' → SndT C e e')
  | 0 => ⟨fun _ _ _ q => (by cases q), fun _ _ _ q => (by cases q)⟩
  | n + 1 => by
    obtain ⟨h1, h2⟩ := tr_ok n
    refine ⟨fun C e e' q => ?_, fun C e e' q => ?_⟩
    · unfold tr at q
      rw [if_neg Bool.false_ne_true] at q
      exact stepE_ok h1 h2 q
    · unfold tr at q
      rw [if_pos rfl] at q
      exact stepT_ok h1 h2 q
end DL

/-! DTr3: statements are turned. -/
namespace DL
open PySem PySem.Spec PyProof.Rows L2
structure CxS (C : Ct) (X : Cx) (W : WX) (j : Nat) (G : Gm) : Prop where
  ok : CxOk C X W j G
  ps : PassesOwn (model X.prog X.w) X.A X.env X.xe
  st : X.stack = X.env :: X.outer
  fr : X.env.frame = some X.env.locals
def SndS (C : Ct) (st : Stmt) (s : S) : Prop := ∀ X W j G, CxS C X W j G → PS X st (TS' X W (exec G s))
def SndB (C : Ct) (sts : List Stmt) (ss : Ss) : Prop := ∀ X W j G, CxS C X W j G → PSs X sts (TS' X W (execs G ss))
def isComp : Expr → Bool
  | .ListComp _ _ _ _ => true
  | .SetComp _ _ _ _ => true
  | .DictComp _ _ _ _ _ => true
  | _ => false
theorem sw_no {e : Expr} (h : isComp e = false) (t : Option Expr) (l : Nat) (env : Env) : swapsWith e t l env = pure false := by
  cases e <;> first | rfl | cases h
/-- a comprehension that is stored straight into a name of its row -/
def swB (C : Ct) (x : Str) (px : Pos) : Expr → Bool
  | .ListComp _ _ scope pos => (if C.sc.kind.isAnnotationScope then ScopeKind.function else C.sc.kind) == .function && C.sc.names.lookup x == some .local && px.line == pos.line && !(scope.names.any fun (n, k) => n == x && (k == .local || k == .cell))
  | _ => false
theorem swB_lc {C : Ct} {X : Cx} {x : Str} {px : Pos} {elt : Expr} {gs : List Comprehension} {scope : Scope} {pos : Pos} {l : Nat} (h : X.env.scope = C.sc) :
    swapsWith (.ListComp elt gs scope pos) (some (.Name x px)) l X.env = pure (swB C x px (.ListComp elt gs scope pos)) := by
  show (pure (X.env.blockKind == .function && X.env.kindOf x == some .local && px.line == pos.line && !(scope.names.any fun (n, k) => n == x && (k == .local || k == .cell))) : Sem Bool) = _
  unfold Env.blockKind Env.kindOf swB
  rw [h]
theorem swB_no {C : Ct} {x : Str} {px : Pos} {e : Expr} (h : isComp e = false) : swB C x px e = false := by
  cases e <;> first | rfl | cases h
def isTupE : Expr → Bool
  | .Tuple _ _ _ => true
  | _ => false
theorem stores_no {e : Expr} {es : List Expr} {k : Nat} {p : Pos} {env : Env} (h : isTupE e = false) : swappedStores [.Tuple es k p] e env = pure none := by
  cases e <;> first | rfl | cases h
def isLc : Expr → Bool
  | .ListComp _ _ _ _ => true
  | _ => false
/-- a call that tells a new list -/
def trF (n : Nat) (C : Ct) : Expr → Option E
  | .Call (.Name f _) (a :: as) [] _ => if C.gl f = true ∧ nm f = true ∧ C.nl = true then match C.sig f with
      | some ms => do
        let es ← trs (tr n false C) (a :: as)
        if fitK ms (flsE es) = true then some (.fcall f es) else none
      | none => none
    else none
  | _ => none
theorem trF_ok {n : Nat} {C : Ct} {e : Expr} {e' : E} (q : trF n C e = some e') : SndE C e e' ∧ fl e' = 1 ∧ isComp e = false := by
  unfold trF at q
  split at q
  · rename_i f pf a as cp
    split at q
    case isFalse => cases q
    rename_i hg
    split at q
    · rename_i ms hs
      simp only [Option.bind_eq_bind, Option.bind_eq_some_iff] at q
      obtain ⟨es, h1, h2⟩ := q
      split at h2
      case isFalse => cases h2
      rename_i hk
      cases h2
      refine ⟨fun X W j G h => ?_, rfl, rfl⟩
      obtain ⟨a1, a2⟩ := trs_ok (fun e e' q => (tr_ok n).1 C e e' q X W j G h) h1
      exact s_fcall (h.nl hg.2.2) (h.sig f ms hs) h.room h.tk (h.gl hg.1) (nm_d hg.2.1).1 a1 a2 hk
    · cases q
  · cases q
/-- a name's store -/
def trAsg (n : Nat) (C : Ct) (o : Bool) (x : Str) (px : Pos) (e : Expr) : Option S := do
  let i ← ixOf C.N x
  if C.loc x = true then match swB C x px e with
    | true => match e with
      | .ListComp elt [⟨tg, iter, ifs, 0⟩] scope _ => do
        let p ← trLc (tr n false) (tr n true) C elt tg iter ifs scope
        if C.sc.names.lookup x = some .local then some (.asg i o (.lc p.elt p.tg p.it p.c p.own)) else none
      | _ => none
    | false => match (if o = true then trF n C e else none) with
      | some e' => some (.asg i o e')
      | none => do
        let e' ← tr n false C e
        if ne2 e' = true ∧ (isComp e = false ∨ isLc e = true) then some (.asg i o e') else none
  else none
theorem trAsg_ok {n : Nat} {C : Ct} {o : Bool} {x : Str} {px pos : Pos} {e : Expr} {s : S} (q : trAsg n C o x px e = some s) : SndS C (.Assign [.Name x px] e pos) s := by
  intro X W j G hS
  have h := hS.ok
  unfold trAsg at q
  simp only [Option.bind_eq_bind, Option.bind_eq_some_iff] at q
  obtain ⟨i, h1, h2⟩ := q
  split at h2
  case isFalse => cases h2
  rename_i hl
  obtain ⟨l1, l2⟩ := h.loc hl
  split at h2
  · rename_i hsw
    split at h2
    · rename_i elt tg iter ifs scope lp
      simp only [Option.bind_eq_some_iff] at h2
      obtain ⟨p, h3, h4⟩ := h2
      split at h4
      case isFalse => cases h4
      rename_i hloc
      cases h4
      have k := trLc_ok (tr_ok n).1 (tr_ok n).2 h h3
      exact st_asgOf (e' := .lc p.elt p.tg p.it p.c p.own) (by show (1 : Nat) ≠ 2; decide) (s_setLc h.calm h.nd (h.ix h1) (by rw [h.sc]; exact hloc) (by rw [swB_lc h.sc, hsw]) k.hi k.ok k.hin k.hg k.ht k.he k.hs)
    · cases h2
  · rename_i hsw
    split at h2
    · rename_i e' h3
      cases h2
      split at h3
      case isFalse => cases h3
      obtain ⟨s1, s2, s3⟩ := trF_ok h3
      exact st_asg h.nd (h.ix h1) l1 l2 (by rw [s2]; decide) (s1 X W j G h) (sw_no s3 _ _ _)
    simp only [Option.bind_eq_bind, Option.bind_eq_some_iff] at h2
    obtain ⟨e', h3, h4⟩ := h2
    split at h4
    case isFalse => cases h4
    rename_i hk
    cases h4
    have k2 : fl e' ≠ 2 := by rcases ne2_of hk.1 with z | z <;> rw [z] <;> decide
    refine st_asg h.nd (h.ix h1) l1 l2 k2 ((tr_ok n).1 _ _ _ h3 X W j G h) ?_
    rcases hk.2 with z | z
    · exact sw_no z _ _ _
    · cases e <;> first | (cases z; done) | skip
      rw [swB_lc h.sc, hsw]
/-- an own list gets one more -/
def trApp (n : Nat) (C : Ct) (x : Str) (ap cp : Pos) (e : Expr) : Option S := do
  let i ← ixOf C.N x
  let e' ← tr n false C e
  if C.vis x = true ∧ nm x = true ∧ ne2 e' = true ∧ pl e = true ∧ (ap.endLine == cp.line) = true then some (.app i e') else none
theorem trApp_ok {n : Nat} {C : Ct} {x : Str} {px ap cp pos : Pos} {e : Expr} {s : S} (q : trApp n C x ap cp e = some s) : SndS C (.Expr (.Call (.Attribute (.Name x px) "append" ap) [e] [] cp) pos) s := by
  intro X W j G hS
  have h := hS.ok
  unfold trApp at q
  simp only [Option.bind_eq_bind, Option.bind_eq_some_iff] at q
  obtain ⟨i, h1, e', h2, h3⟩ := q
  split at h3
  case isFalse => cases h3
  rename_i hk
  cases h3
  obtain ⟨k1, k2, k3, k4, k5⟩ := hk
  exact st_app (h.ix h1) (h.vis k1) (nm_d k2).1 (nm_d k2).2 (s_share (ne2_of k3) ((tr_ok n).1 _ _ _ h2 X W j G h)) (pl_star k4) rfl k5
def trRaise (n : Nat) (C : Ct) (c : Str) (es : List Expr) : Option S := do
  let ns ← C.cls c
  let es' ← trs (tr n false C) es
  if C.gl c = true ∧ nm c = true ∧ all2 es' = true ∧ es.length = ns.length then some (.raise c ns es') else none
theorem trRaise_ok {n : Nat} {C : Ct} {c : Str} {px cp pos : Pos} {es : List Expr} {s : S} (q : trRaise n C c es = some s) : SndS C (.Raise (some (.Call (.Name c px) es [] cp)) none pos) s := by
  intro X W j G hS
  have h := hS.ok
  unfold trRaise at q
  simp only [Option.bind_eq_bind, Option.bind_eq_some_iff] at q
  obtain ⟨ns, h1, es', h2, h3⟩ := q
  split at h3
  case isFalse => cases h3
  rename_i hk
  cases h3
  obtain ⟨a1, a2⟩ := trs_ok (fun e e' q => (tr_ok n).1 C e e' q X W j G h) h2
  by_cases hn : ns = []
  · subst hn
    have e0 : es = [] := List.length_eq_zero_iff.mp hk.2.2.2
    subst e0
    cases h2
    exact st_raise0 h.calm h.tk (h.cls c [] h1 X rfl rfl rfl rfl rfl) (h.gl hk.1) (nm_d hk.2.1).1
  exact st_raise h.calm h.tk (h.cls c ns h1 X rfl rfl rfl rfl rfl) (h.gl hk.1) h.room a1 (all2_ok hk.2.2.1) a2 (nm_d hk.2.1).1 hk.2.2.2 hn
/-- what is not turned -/
theorem st_bad {X : Cx} {W : WX} {st : Stmt} : PS X st (TS' X W fun _ => .bad) := ⟨fun pins s σ H D I ⟨F0, H0, F, ρ, r, q⟩ => (show False from q).elim⟩
/-- try: .. except .. -/
def trTry (r : List Stmt → Option Ss) (C : Ct) (body : List Stmt) (me n : Str) (suite : List Stmt) : Option S := do
  let t ← C.kd
  let b ← r body
  let i ← ixOf C.N n
  let h ← trH n t.kn 20 suite
  if t.me = me ∧ C.gl me = true ∧ nm me = true ∧ nm n = true ∧ nm t.kn = true ∧ C.gl t.kn = true ∧ C.sc.names.lookup n = some .local then some (.tri t.tbl b h) else none
theorem CxS.tr {C : Ct} {X : Cx} {W W' : WX} {j : Nat} {G : Gm} {pn : List (Addr × Obj)} {xe : Value → Shared → Prop} (h : CxS C X W j G) (tk : Takes (X.tr pn xe) W') (po : PassesOwn (model X.prog X.w) X.A X.env xe) : CxS C (X.tr pn xe) W' j G :=
  ⟨⟨h.ok.N, h.ok.sc, h.ok.nd, h.ok.calm, h.ok.room, tk, fun f ms e => ⟨(h.ok.sig f ms e).ex⟩, h.ok.gis, h.ok.cls, h.ok.blt, h.ok.fnc, h.ok.kd, h.ok.nl⟩, po, h.st, h.fr⟩
def tTs (X : Cx) (t : KTb) (i : Nat) (h : XH) (a : Addr) (cls : Value) (d : Option Addr) : TS := fun D σ H => ∃ C k ns, cls = .ref C ∧ (∃ c, t.lookup c = some (k, ns) ∧ X.mg c = some (.ref C)) ∧ tSu X ⟨a, { cls := .none, data := .fields #[] }, C, d⟩ i k ns h D σ H
theorem trTry_ok {r : List Stmt → Option Ss} {C : Ct} {body suite : List Stmt} {b₀ : Stmt} {me n : Str} {p1 p2 p3 : Pos} {s : S} {X : Cx} {W : WX} {j : Nat} {G : Gm}
    (hr : ∀ (Y : Cx) (V : WX), CxS C Y V j G → ∀ b b', r b = some b' → PSs Y b (TS' Y V (execs G b'))) (hS : CxS C X W j G) (q : trTry r C body me n (b₀ :: suite) = some s) :
    PS X (.Try body [.ExceptHandler (some (.Name me p1)) (some n) (b₀ :: suite) p2] [] [] p3) (TS' X W (exec G s)) := by
  have h := hS.ok
  unfold trTry at q
  simp only [Option.bind_eq_bind, Option.bind_eq_some_iff] at q
  obtain ⟨t, q1, b, q2, i, q3, hh, q4, q5⟩ := q
  split at q5
  case isFalse => cases q5
  rename_i z
  cases q5
  obtain ⟨rfl, z1, z2, z3, z4, z5, z6⟩ := z
  have kd := h.kd t q1
  obtain ⟨M, gM, hM⟩ := kd.me
  obtain ⟨f, fd, gf, kf, bd, hF⟩ := kd.fn
  have hln : X.env.kindOf n = some .local := by show X.env.scope.names.lookup n = _; rw [h.sc]; exact z6
  have P := ps_try_as (body := body) (np := p1) (pos' := p2) (pos := p3) (tb := fun V => TS' X V (execs G b)) (ts := tTs X t.tbl i hh) hS.st hS.fr h.nd (h.ix q3) hln ⟨h.gl z1, (nm_d z2).1, .inl gM⟩ h.tk
    (fun V pn xe tk po => hr _ V (hS.tr tk po) body b q2)
    (fun a oe cls d pn hz hf => ⟨fun pins s σ H D I ⟨C1, k, ns, e1, ⟨c, hc, gc⟩, w⟩ => by
      subst e1
      obtain ⟨ec, ex, no⟩ := hM c k ns hc C1 gc
      have ok : (⟨a, oe, C1, d⟩ : Er).Ok := ⟨hz, hf⟩
      have su : SuX X ⟨a, oe, C1, d⟩ pn n t.kn i k ns j := ⟨h.ix q3, .inl (by rw [h.sc]; exact z6), z3, z4, h.gl z5, ok, ⟨ec.ga, ec.gg, ec.ex, ec.hd⟩, no, L2H.roomH_of h.room, f, fd, t.ex, gf, kf, bd, hF c k ns hc C1 gc _ rfl ok⟩
      exact (trH_ok su 20 q4).run pins s σ H D I w⟩)
  refine ⟨fun pins s σ H D I q => P.run pins s σ H D I ?_⟩
  have hlen : i < σ.length := by
    have := (List.getElem?_eq_some_iff.mp (h.ix q3)).1
    rw [I.len]; exact this
  obtain ⟨F0, H0, F, ρ, r', q⟩ := q
  refine ⟨F0, H0, F, ρ, r', ?_⟩
  have q : PostS X W F0 H0 σ.length (triM t.tbl hh (execs G b ρ)) D := q
  cases e : execs G b ρ with
  | bad => rw [e] at q; exact q
  | ok fl => rw [e] at q; cases fl <;> exact q
  | ex c fs =>
    rw [e] at q
    have q : PostS X W F0 H0 σ.length (match t.tbl.lookup c with
      | some (k, ns) => (xhM k ns fs hh).bind fun d => .ok (.ret d)
      | none => .bad) D := q
    cases hl : t.tbl.lookup c with
    | none => rw [hl] at q; exact (show False from q).elim
    | some kn =>
      obtain ⟨k, ns⟩ := kn
      rw [hl] at q
      cases hd : xhM k ns fs hh with
      | bad => dsimp only at q; rw [hd] at q; exact (show False from q).elim
      | ex c2 fs2 =>
        exfalso
        exact xhM_noex hd
      | ok d =>
        dsimp only at q
        rw [hd] at q
        have q : ∀ v F' H', Grow F0 H0 F' H' → DV X.K F' v d → D.rt v H' := q
        intro σ' F' H' cls dd hl' g x
        obtain ⟨C1, gc, rfl, xf⟩ := x
        obtain ⟨ec, ex, no⟩ := hM c k ns hl C1 gc
        refine ⟨true, ex, fun _ a ha => ⟨C1, k, ns, rfl, ⟨c, hl, gc⟩, F', fs, ⟨by rw [List.getElem?_set_self (by rw [hl']; exact hlen)], g.fh, ?_⟩, d, hd, fun v F2 H2 g2 dv => q v F2 H2 (g.trans g2) dv⟩, fun z => by cases z⟩
        rcases xf with ⟨rfl, rfl⟩ | ⟨d1, fv, _, rfl, _, h4, h5, h6⟩
        · exact .inl ⟨rfl, rfl⟩
        · exact .inr ⟨d1, fv, rfl, h4, h5, h6⟩
/-- one statement, its head by C', its blocks by r -/
def stepS (r : List Stmt → Option Ss) (n : Nat) (C C' : Ct) : Stmt → Option S
  | .Return none _ => some .retN
  | .Return (some e) _ => do
    let e' ← tr n false C' e
    if ne2 e' = true then some (.ret e') else none
  | .Assign [.Name x px] (.Dict [] [] _) _ => match ixOf C'.N x with
    | some i => if decide (i + 1000 ∈ C'.own) && C'.loc x then some (.dnew i) else none
    | none => none
  | .Assign [.Subscript a k sp] e p => match dicN C' a with
    | some i => do
      let k' ← tr n false C' k
      let e' ← tr n false C' e
      if ne2 e' = true ∧ isComp e = false then some (.dput i k' e') else none
    | none => none
  | .Assign [.Name x px] e _ => trAsg n C' (match ixOf C.N x with | some i => decide (i ∈ C.own) | none => false) x px e
  | .Assign [.Tuple es k p] e _ => if isComp e = false ∧ isTupE e = false then do
      let t ← trTg C' (.Tuple es k p)
      let e' ← tr n false C' e
      match t with
      | .tup is => if ne2 e' = true then some (.unp is e') else none
      | _ => none
    else none
  | .Expr (.Constant (.str _) _ _) _ => some .pass
  | .Expr (.Call (.Attribute (.Name x _) m ap) [e] [] cp) _ => if m = ("append" : Str) then trApp n C' x ap cp e else none
  | .Expr e _ => do
    let e' ← tr n false C' e
    if isComp e = false then some (.expr e') else none
  | .If c a b _ => do
    let c' ← tr n true C' c
    let a' ← r a
    let b' ← r b
    some (.ifs c' a' b')
  | .For tg it body [] _ => do
    let t ← trTg C' tg
    let i ← trI false (tr n false C') C' tg it
    let b ← r body
    some (.for_ t i b)
  | .While c body [] _ => do
    let c' ← tr n true C' c
    let b ← r body
    some (.whl c' b)
  | .Raise (some (.Call (.Name c _) es [] _)) none _ => trRaise n C' c es
  | .Pass _ => some .pass
  | .Break _ => some .brk
  | .Continue _ => some .cont
  | .Try body [.ExceptHandler (some (.Name me _)) (some x) (b₀ :: suite) _] [] [] _ => trTry r C body me x (b₀ :: suite)
  | _ => none
theorem stepS_ok {r : List Stmt → Option Ss} {n : Nat} {C C' : Ct} {st : Stmt} {s : S} {X : Cx} {W : WX} {j : Nat} {G : Gm} (hr0 : ∀ (Y : Cx) (V : WX), CxS C Y V j G → ∀ b b', r b = some b' → PSs Y b (TS' Y V (execs G b'))) (h0 : CxS C X W j G) (h' : CxS C' X W j G) (q : stepS r n C C' st = some s) : PS X st (TS' X W (exec G s)) := by
  have h := h'.ok
  have hr := hr0 X W h0
  have hE : ∀ e e', tr n false C' e = some e' → PE X e (TE' X W (fl e') (ev G e')) := fun e e' q => (tr_ok n).1 _ e e' q X W j G h
  have hT : ∀ e e', tr n true C' e = some e' → PT X e (TT' X W fun ρ => evB (ev G e' ρ)) := fun e e' q => (tr_ok n).2 _ e e' q X W j G h
  unfold stepS at q
  split at q
  · cases q; exact st_retN
  · simp only [Option.bind_eq_bind, Option.bind_eq_some_iff] at q
    obtain ⟨e', h1, h2⟩ := q
    split at h2
    case isFalse => cases h2
    rename_i hk
    cases h2
    exact st_ret (s_share (ne2_of hk) (hE _ _ h1))
  · split at q
    · rename_i i hi
      split at q
      case isFalse => cases q
      rename_i hk
      cases q
      rw [Bool.and_eq_true] at hk
      obtain ⟨l1, l2⟩ := h.loc hk.2
      exact st_dnew h.nd (h.ix hi) l1 l2
    · cases q
  · split at q
    · rename_i i hd
      simp only [Option.bind_eq_bind, Option.bind_eq_some_iff] at q
      obtain ⟨k', h1, e', h2, h3⟩ := q
      split at h3
      case isFalse => cases h3
      rename_i hk
      cases h3
      obtain ⟨x, p, rfl, d1, d2, d3, d4⟩ := dicN_ok h hd
      exact st_dput h.room (hE _ _ h1) (s_share (ne2_of hk.1) (hE _ _ h2)) d1 d2 d3 d4 (sw_no hk.2 _ _ _)
    · cases q
  · exact trAsg_ok q X W j G h'
  · split at q
    case isFalse => cases q
    rename_i hk
    simp only [Option.bind_eq_bind, Option.bind_eq_some_iff] at q
    obtain ⟨t, h1, e', h2, h3⟩ := q
    split at h3
    · rename_i is
      split at h3
      case isFalse => cases h3
      rename_i h2'
      cases h3
      exact st_unp (trTg_ok h h1) (s_share (ne2_of h2') (hE _ _ h2)) (by unfold swapsWithSole; exact sw_no hk.1 _ _ _) (stores_no hk.2) rfl
    · cases h3
  · cases q; exact st_doc
  · split at q
    case isFalse => cases q
    rename_i hm
    subst hm
    exact trApp_ok q X W j G h'
  · simp only [Option.bind_eq_bind, Option.bind_eq_some_iff] at q
    obtain ⟨e', h1, h2⟩ := q
    split at h2
    case isFalse => cases h2
    rename_i hk
    cases h2
    exact st_expr (hE _ _ h1) (sw_no hk _ _ _)
  · simp only [Option.bind_eq_bind, Option.bind_eq_some_iff] at q
    obtain ⟨c', h1, a', h2, b', h3, h4⟩ := q
    cases h4
    exact st_ifs (hT _ _ h1) (hr _ _ h2) (hr _ _ h3)
  · simp only [Option.bind_eq_bind, Option.bind_eq_some_iff] at q
    obtain ⟨t, h1, i, h2, b, h3, h4⟩ := q
    cases h4
    obtain ⟨i1, i2⟩ := trI_ok h hE h2
    exact st_for h'.ps h.calm i1 (trTg_ok h h1) (hr _ _ h3) (pl_fsi i2 _)
  · simp only [Option.bind_eq_bind, Option.bind_eq_some_iff] at q
    obtain ⟨c', h1, b, h3, h4⟩ := q
    cases h4
    exact st_whl h'.ps (hT _ _ h1) (hr _ _ h3)
  · exact trRaise_ok q X W j G h'
  · cases q; exact st_pass
  · cases q; exact st_brk
  · cases q; exact st_cont
  · exact trTry_ok hr0 h0 q
  · cases q
def Ct.less (C : Ct) (fz : List Nat) : Ct := { C with own := C.own.filter fun i => !fz.contains i }
theorem CxS.less {C : Ct} {X : Cx} {W : WX} {j : Nat} {G : Gm} (h : CxS C X W j G) (fz : List Nat) : CxS (C.less fz) X W j G :=
  ⟨⟨h.ok.N, h.ok.sc, h.ok.nd, h.ok.calm, h.ok.room, h.ok.tk, h.ok.sig, h.ok.gis, h.ok.cls, h.ok.blt, h.ok.fnc, h.ok.kd, h.ok.nl⟩, h.ps, h.st, h.fr⟩
def cands (own : List Nat) : List (List Nat) := [] :: (own.filter fun i => decide (i < 1000)).map (fun i => [i]) ++ [own.filter fun i => decide (i < 1000)]
def tryS (f : Ct → Option S) (C : Ct) : List (List Nat) → Option (List Nat × S)
  | [] => none
  | fz :: r => match f (C.less fz) with
    | some s => some (fz, s)
    | none => tryS f C r
theorem tryS_ok {f : Ct → Option S} {C : Ct} : ∀ {l : List (List Nat)} {fz : List Nat} {s : S}, tryS f C l = some (fz, s) → f (C.less fz) = some s
  | [], fz, s, q => by cases q
  | z :: r, fz, s, q => by
    unfold tryS at q
    split at q
    · rename_i e; cases q; exact e
    · exact tryS_ok q
/-- a test that looks at a slot's list, which stays its own -/
def trIfT (r : List Stmt → Option Ss) (n : Nat) (C : Ct) (c : Expr) (a b : List Stmt) : List Nat → Option S
  | [] => none
  | i :: is => match tr n true (C.less [i]) c with
    | some c' => do
      let a' ← r a
      let b' ← r b
      some (.ifT i c' a' b')
    | none => trIfT r n C c a b is
def trT (r : List Stmt → Option Ss) (n : Nat) (C : Ct) : Stmt → Option S
  | .If c a b _ => if C.nl = true then trIfT r n C c a b C.own else none
  | _ => none
theorem trIfT_ok {r : List Stmt → Option Ss} {n : Nat} {C : Ct} {c : Expr} {a b : List Stmt} {pos : Pos} {s : S} {X : Cx} {W : WX} {j : Nat} {G : Gm} (hr : ∀ b b', r b = some b' → PSs X b (TS' X W (execs G b'))) (h : CxS C X W j G) : ∀ {is : List Nat}, trIfT r n C c a b is = some s → PS X (.If c a b pos) (TS' X W (exec G s))
  | [], q => by cases q
  | i :: is, q => by
    unfold trIfT at q
    split at q
    · rename_i c' h1
      simp only [Option.bind_eq_bind, Option.bind_eq_some_iff] at q
      obtain ⟨a', h2, b', h3, h4⟩ := q
      cases h4
      exact st_ifT ((tr_ok n).2 _ _ _ h1 X W j G (h.less [i]).ok) (hr _ _ h2) (hr _ _ h3)
    · exact trIfT_ok hr h q
theorem trT_ok {r : List Stmt → Option Ss} {n : Nat} {C : Ct} {st : Stmt} {s : S} {X : Cx} {W : WX} {j : Nat} {G : Gm} (hr : ∀ b b', r b = some b' → PSs X b (TS' X W (execs G b'))) (h : CxS C X W j G) (q : trT r n C st = some s) : PS X st (TS' X W (exec G s)) := by
  unfold trT at q
  split at q
  · split at q
    case isFalse => cases q
    exact trIfT_ok hr h q
  · cases q
/-- a new list of lists, looked at and changed -/
def trIs (n : Nat) (C : Ct) : Stmt → List Stmt → Option (S × List Stmt)
  | .Assign [.Name x _] (.Call (.Name f _) (a0 :: as) [] _) _, .If (.UnaryOp .Not (.Call (.Name g _) [.Name x2 _, e2] [] _) _) [.Return (some (.Constant (.bool false) _ _)) _] [] _ :: .Expr (.Call (.Attribute (.Name x3 _) m3 ap3) [.List [] _] [] c3) _ ::
      .Expr (.Call (.Attribute (.Subscript (.Name x4 _) (.Constant (.int z4) _ _) _) m4 ap4) [.Constant (.int z5) _ _] [] c4) _ :: rest =>
    if (C.nl = true ∧ x2 = x ∧ x3 = x ∧ x4 = x ∧ m3 = ("append" : Str) ∧ m4 = ("append" : Str) ∧ z4 = 0 ∧ z5 = 0) ∧ (nm x = true ∧ C.vis x = true ∧ C.loc x = true ∧ C.gl f = true ∧ nm f = true ∧ C.gl g = true ∧ nm g = true) ∧ pl e2 = true ∧ (ap3.endLine == c3.line) = true ∧ (ap4.endLine == c4.line) = true then do
      let i ← ixOf C.N x
      let msf ← C.sig f
      let msg ← C.sig g
      let es ← trs (tr n false C) (a0 :: as)
      let e' ← tr n false C e2
      if fitK msf (flsE es) = true ∧ msg = [.sh, .sh] ∧ ne2 e' = true then some (.isle i f es g e', rest) else none
    else none
  | _, _ => none
theorem trIs_ok {n : Nat} {C : Ct} {st : Stmt} {sts rest : List Stmt} {s : S} {X : Cx} {W : WX} {j : Nat} {G : Gm} (hS : CxS C X W j G) (q : trIs n C st sts = some (s, rest)) {gr : Rho → M Fl} (hrest : PSs X rest (TS' X W gr)) :
    PSs X (st :: sts) (TS' X W fun ρ => onNext (exec G s ρ) gr) := by
  have h := hS.ok
  unfold trIs at q
  split at q
  · split at q
    case isFalse => cases q
    rename_i hk
    simp only [Option.bind_eq_bind, Option.bind_eq_some_iff] at q
    obtain ⟨i, q1, msf, q2, msg, q3, es, q4, e', q5, q6⟩ := q
    split at q6
    case isFalse => cases q6
    rename_i hz
    cases q6
    obtain ⟨⟨k1, rfl, rfl, rfl, rfl, rfl, rfl, rfl⟩, ⟨k2, k3, k4, k5, k6, k7, k8⟩, k9, k10, k11⟩ := hk
    obtain ⟨l1, l2⟩ := h.loc k4
    obtain ⟨z1, rfl, z3⟩ := hz
    obtain ⟨a1, a2⟩ := trs_ok (fun e e' q => (tr_ok n).1 C e e' q X W j G h) q4
    exact ss_isle (h.nl k1) h.nd (h.ix q1) l1 l2 (h.vis k3) (nm_d k2).1 (nm_d k2).2 (h.sig _ _ q2) (h.sig _ _ q3) h.room h.tk (h.gl k5) (h.gl k7) (nm_d k6).1 (nm_d k8).1 a1 a2 z1 (s_share (ne2_of z3) ((tr_ok n).1 C _ _ q5 X W j G h)) (pl_star k9) k10 k11 hrest
  · cases q
def frzs : List Nat → Ss → Ss
  | [], ss => ss
  | i :: is, ss => .cons (.frz i) (frzs is ss)
def trB : Nat → Ct → List Stmt → Option Ss
  | 0, _, _ => none
  | n + 1, C, [] => some .nil
  | n + 1, C, st :: rest => match trIs n C st rest with
    | some (s, rest') => do
      let ss ← trB n C rest'
      some (.cons s ss)
    | none => do
      let ss ← trB n C rest
      match stepS (trB n C) n C (C.less []) st with
      | some s => some (.cons s ss)
      | none => match trT (trB n C) n C st with
        | some s => some (.cons s ss)
        | none => match tryS (fun C' => stepS (trB n C) n C C' st) C (cands C.own) with
          | some (fz, s) => some (frzs fz (.cons s ss))
          | none => some (.cons .bad .nil)
theorem ss_frz {X : Cx} {W : WX} {sts : List Stmt} {i : Nat} {f : Rho → M Fl} (h : PSs X sts (TS' X W f)) : PSs X sts (TS' X W fun ρ => onNext (match ρ[i]? with
      | some s => .ok (.next (ρ.set i (frzS s)))
      | none => .bad) f) := by
  refine PSs.imp h fun Q σ H ⟨F0, H0, F, ρ, r, q⟩ => ?_
  have q : PostS X W F0 H0 σ.length (onNext (match ρ[i]? with
      | some s => .ok (.next (ρ.set i (frzS s)))
      | none => .bad) f) Q := q
  cases e : ρ[i]? with
  | none => rw [e] at q; exact q.elim
  | some s =>
    rw [e] at q
    have q : PostS X W F0 H0 σ.length (f (ρ.set i (frzS s))) Q := q
    have same : frzS s = s → ρ.set i (frzS s) = ρ := fun w => by
      obtain ⟨hl, e2⟩ := List.getElem?_eq_some_iff.mp e
      rw [w, ← e2, List.set_getElem_self]
    cases s with
    | own d =>
      cases d with
      | list xs => obtain ⟨F1, r1⟩ := r.frz e; exact ⟨F0, H0, F1, _, r1, q⟩
      | _ => rw [same rfl] at q; exact ⟨F0, H0, F, ρ, r, q⟩
    | _ => rw [same rfl] at q; exact ⟨F0, H0, F, ρ, r, q⟩
theorem frzs_ok {X : Cx} {W : WX} {G : Gm} {sts : List Stmt} {ss : Ss} (h : PSs X sts (TS' X W (execs G ss))) : ∀ {is : List Nat}, PSs X sts (TS' X W (execs G (frzs is ss)))
  | [] => h
  | i :: is => ss_frz (frzs_ok h (is := is))
theorem trB_ok : ∀ (n : Nat) (C : Ct) (sts : List Stmt) (ss : Ss), trB n C sts = some ss → SndB C sts ss
  | 0, _, _, _, q => by cases q
  | n + 1, C, [], ss, q => by cases q; exact fun X W j G h => ss_nil
  | n + 1, C, st :: rest, ss, q => by
    unfold trB at q
    split at q
    · rename_i s rest' h1
      simp only [Option.bind_eq_bind, Option.bind_eq_some_iff] at q
      obtain ⟨ss', h2, h3⟩ := q
      cases h3
      intro X W j G h
      exact trIs_ok h h1 (trB_ok n C rest' ss' h2 X W j G h)
    simp only [Option.bind_eq_bind, Option.bind_eq_some_iff] at q
    obtain ⟨ss', h2, h3⟩ := q
    split at h3
    · rename_i s h1
      cases h3
      intro X W j G h
      exact ss_cons (stepS_ok (fun Y V hY b b' q => trB_ok n C b b' q Y V j G hY) h (h.less []) h1) (trB_ok n C rest ss' h2 X W j G h)
    split at h3
    · rename_i s h1
      cases h3
      intro X W j G h
      exact ss_cons (trT_ok (fun b b' q => trB_ok n C b b' q X W j G h) h h1) (trB_ok n C rest ss' h2 X W j G h)
    split at h3
    · rename_i fz s h1
      cases h3
      have h1 := tryS_ok h1
      intro X W j G h
      exact frzs_ok (ss_cons (stepS_ok (fun Y V hY b b' q => trB_ok n C b b' q Y V j G hY) h (h.less fz) h1) (trB_ok n C rest ss' h2 X W j G h))
    · cases h3
      intro X W j G h
      have p1 : PSs X (st :: rest) (TS' X W fun ρ => onNext (M.bad : M Fl) (execs G ss')) := ss_cons (st_bad (W := W)) (trB_ok n C rest ss' h2 X W j G h)
      exact PSs.imp p1 fun Q σ H ⟨F0, H0, F, ρ, r, q⟩ => (show False from q).elim
end DL

/-! DFn: a def keeps its plain meaning. -/
namespace DL
open PySem PySem.Spec PyProof.Rows L2
/-- what a module's texts may call -/
structure MdOk (P : Program) (w : World) (K : Fg) (mg : Str → Option Value) (base : Heap) (sig : Str → Option (List Pm)) (gis : Str → Option Gc) (cls : Str → Option (List Str)) (kd : Option KdI) (k : Nat) (G : Gm) : Prop where
  sig : ∀ f ms, sig f = some ms → ∃ fa fd ps, FnOk P w K mg base (L2.CX P w) k fa fd ps (spOf K mg ms (G f)) ∧ mg f = some (.ref fa) ∧ PySem.W.keepIn K (.ref fa) = true ∧ Binds K fd ps []
  gis : ∀ x i, gis x = some i → GcOk mg x i
  cls : ∀ c ns, cls c = some ns → ∀ X : Cx, X.prog = P → X.w = w → X.K = K → X.mg = mg → X.base = base → RaG X k c ns
  blt : ∀ x ∈ bltNames, mg x = none
  kd : ∀ t, kd = some t → KdOk P w K mg base t k
theorem start_un : ∀ {n i : Nat} {s : Sl}, (List.replicate n Sl.un)[i]? = some s → s = .un
  | n, i, s, h => by
    obtain ⟨h1, h2⟩ := List.getElem?_eq_some_iff.mp h
    rw [List.getElem_replicate] at h2
    exact h2.symm
theorem args_slot {K : Fg} {F H : Hp} {ms : List Pm} {vs : List V} {ds : List D} (h : ArgsR K F H ms vs ds) : ∀ {i : Nat} {s : Sl}, (ms.zipWith parS ds)[i]? = some s → (∀ d, s ≠ .own d) ∧ SlR K H F H s ((vs.map some)[i]?) := by
  induction h with
  | nil => intro i s e; simp at e
  | @sh ms v vs d ds h _ ih =>
    intro i s e
    cases i with
    | zero =>
      simp at e
      subst e
      exact ⟨fun d z => (by cases z), v, rfl, h⟩
    | succ i =>
      simp at e
      simpa using ih (i := i) (s := s) (by simpa using e)
  | @bor ms v vs d ds h _ ih =>
    intro i s e
    cases i with
    | zero =>
      simp at e
      subst e
      exact ⟨fun d z => (by cases z), v, rfl, h⟩
    | succ i =>
      simp at e
      simpa using ih (i := i) (s := s) (by simpa using e)
theorem rel_start {K : Fg} {F H : Hp} {ms : List Pm} {vs : List V} {ds : List D} {N : List Str} (s : Sub F H) (h : ArgsR K F H ms vs ds) (hn : ms.length ≤ N.length) : Rel K F H F (DL.start ms N.length ds) (L2.start N vs) H := by
  have l1 : vs.length = ms.length := h.length.1
  have l2 : ds.length = ms.length := h.length.2
  have lz : (ms.zipWith parS ds).length = ms.length := by rw [List.length_zipWith, l2, Nat.min_self]
  have get : ∀ {i : Nat} {sl : Sl}, (DL.start ms N.length ds)[i]? = some sl → (∀ d, sl ≠ .own d) ∧ SlR K H F H sl (L2.start N vs)[i]? := by
    intro i sl e
    unfold DL.start at e
    unfold L2.start
    by_cases hi : i < ms.length
    · rw [List.getElem?_append_left (by rw [lz]; exact hi)] at e
      obtain ⟨a, b⟩ := args_slot h e
      refine ⟨a, ?_⟩
      rw [List.getElem?_append_left (by rw [List.length_map, l1]; exact hi)]
      exact b
    · rw [List.getElem?_append_right (by rw [lz]; omega)] at e
      have := start_un e
      subst this
      exact ⟨fun d z => (by cases z), trivial⟩
  refine ⟨?_, s, Sub.refl _, Sub.refl _, fun a e => .inl e, fun _ _ _ h => h, fun i sl e => (get e).2, fun i k d a e1 => absurd rfl ((get e1).1 d)⟩
  unfold DL.start L2.start
  rw [List.length_append, List.length_append, lz, List.length_replicate, List.length_map, List.length_replicate, l1]
def ctOf (N : List Str) (sc : Scope) (own : List Nat) (sig : Str → Option (List Pm)) (gis : Str → Option Gc) (cls : Str → Option (List Str)) (kd : Option KdI) (nl : Bool := false) : Ct := ⟨N, sc, own, sig, gis, cls, fun _ => true, kd, nl⟩
theorem fn_ok {P : Program} {w : World} {K : Fg} {mg : Str → Option Value} {base : Heap} {sig : Str → Option (List Pm)} {gis : Str → Option Gc} {cls : Str → Option (List Str)} {kd : Option KdI} {nl : Bool} {k n : Nat} {G : Gm} {x qual : Str} {st : Stmt} {f : Addr} {fd : FuncData} {N ps : List Str} {ms : List Pm} {own : List Nat} {ss : Ss}
    (Md : MdOk P w K mg base sig gis cls kd k G) (F : Fun K x qual st f fd) (S : FnScope N ps (defScope st)) (hm : ms.length = ps.length) (ht : trB n (ctOf N (defScope st) own sig gis cls kd nl) (defBody st) = some ss) (hnl : nl = true → nlK K = true := by intro z; cases z) :
    FnOk P w K mg base (L2.CX P w) (k + 1) f fd ps (spOf K mg ms (run G ⟨ms, N.length, false, ss⟩)) := by
  have hpl : ps.length ≤ N.length := by have := congrArg List.length S.pre; rw [List.length_take] at this; omega
  refine F.okX S (fun vs H Q E ⟨F, ds, s, a, _⟩ => by rw [a.length.1, hm]) fun cdv A outer s H vs Q E hr h => ?_
  obtain ⟨F', ds, sub, ar, post⟩ := h
  have cx : CxS (ctOf N (defScope st) own sig gis cls kd nl) (cxOf (L2.CX P w) P w K mg base N qual (defScope st) f cdv A outer s H E) (fun c d _ H => E c d H) k G :=
    ⟨⟨rfl, rfl, S.nd, rfl, hr, takes_of rfl rfl rfl rfl, fun g ms' e => ⟨Md.sig g ms' e⟩, Md.gis, fun c ns e Y h1 h2 h3 h4 h5 => Md.cls c ns e Y h1 h2 h3 h4 h5, Md.blt, fun _ _ => rfl, Md.kd, hnl⟩, passes_of rfl, rfl, rfl⟩
  refine ⟨_, trB_ok n _ _ _ ht _ _ _ _ cx, ?_⟩
  have r := rel_start (N := N) sub ar (by rw [hm]; exact hpl)
  refine ⟨F', H, F', _, r, ?_⟩
  have post : match (if ds.length = ms.length then (execs G ss (DL.start ms N.length ds)).bind fun x => match x with
      | .ret d => .ok d
      | .next _ => .ok .none
      | _ => .bad
    else .bad : M D) with
    | .ok d => ∀ v F1 H', Grow F' H F1 H' → DV K F1 v d → Q v H'
    | .ex c fs => ∀ F1 H' cls dd, Grow F' H F1 H' → XR mg K F1 H' c fs cls dd → E cls dd H'
    | .bad => False := post
  rw [if_pos ar.length.2] at post
  cases e : execs G ss (DL.start ms N.length ds) with
  | bad => rw [e] at post; exact post.elim
  | ex c fs => rw [e] at post; exact fun σ' F1 H1 cls dd _ g z => post F1 H1 cls dd g z
  | ok fl =>
    rw [e] at post
    cases fl with
    | next ρ => exact fun σ' F1 H1 _ r' => post .non F1 H1 r'.grow0 .none
    | ret d => exact fun v F1 H1 g z => post v F1 H1 g z
    | brk ρ => exact post.elim
    | cont ρ => exact post.elim
/-- of what is not told, anything holds -/
theorem fn_bad {P : Program} {w : World} {K : Fg} {mg : Str → Option Value} {base : Heap} {k : Nat} {f : Addr} {fd : FuncData} {ps : List Str} {ms : List Pm} : FnOk P w K mg base (L2.CX P w) k f fd ps (spOf K mg ms fun _ => .bad) :=
  ⟨fun vs H Q E ⟨F, ds, s, a, z⟩ => z.elim, fun A outer s H args us vs Q E hr he hb hv hs => by
    obtain ⟨F, ds, s, a, z⟩ := hs
    exact z.elim⟩
end DL

/-! DExc: own errors are made. -/
namespace DL
open PySem PySem.Spec PyProof.Rows L2
section
variable {X : Cx}
/-- an own class without fields: C() -/
theorem ra_none {j : Nat} {c : Str} {C : Addr} {bmB : List Value} {B newId initId : String} (F : ExcBaseFacts B newId initId bmB) (q : PySem.W.excIn X.K C bmB newId = true) (gC : X.mg c = some (.ref C)) (kC : PySem.W.keepIn X.K (.ref C) = true) (r : Raises X (.ref C)) : RaG X j c [] := by
  refine ⟨C, gC, fun _ px pos hg hd => ?_, fun z => absurd rfl z⟩
  intro pins s σ H Q I h
  refine wpAny_Call_Name_kw (ld_glob I hg gC ?_ hd)
  refine PySem.W.callWith_K0 I.kIn kC ?_
  show wpAny _ _ (call (.ref C) []) _ _ _
  obtain ⟨bm, N, nm, qn, bs, hdct, sn, sub, ab, col, dd, k0, k1, k2, k3, k5, mN, hC, hN, hni, T⟩ := exc_obj I.kIn q
  obtain ⟨hp, g, dr, tk, os⟩ := s
  refine wpAny_call_exc_subT F T hC hN hni (fun h' e hm => ?_) (Nat.zero_le _)
  exact mk_of I hm r h (I.hok.gone hm.new)
/-- what __init__ promises -/
def spIn (K : Fg) (ns : List Str) : Sp := fun vs H Q E => ∃ (a C : Addr) (ws : List V), vs = .ref a :: ws ∧ ws.length = ns.length ∧ OexC K C ∧ (∀ n ∈ ns, PySem.W.findIn K (.ref C) n = some none) ∧ H a = some (exo a C none) ∧
  ∀ (d : Addr) (H2 : Hp), H d = none → d ≠ a → H2 a = some (exo a C (some d)) → H2 d = some (exd d (ns.zip ws).reverse) → (∀ b, b ≠ a → b ≠ d → H2 b = H b) → Q .non H2
/-- an own class whose __init__ keeps its arguments -/
theorem ra_some {j k : Nat} {c : Str} {C fI : Addr} {fd : FuncData} {ns : List Str} (hj : k + 1 ≤ j) (T : OexC X.K C) (iC : PySem.W.findIn X.K (.ref C) "__init__" = some (some (.ref fI))) (tI : PySem.W.typeIn X.K (.ref fI) = some (.type "function"))
    (F : FnOk X.prog X.w X.K X.mg X.base (L2.CX X.prog X.w) k fI fd ("self" :: ns) (spIn X.K ns)) (hb : Binds X.K fd ("self" :: ns) []) (gC : X.mg c = some (.ref C)) (hno : ∀ n ∈ ns, PySem.W.findIn X.K (.ref C) n = some none) (hns : ns ≠ []) (hl0 : ns.length ≤ 10) : RaG X j c ns := by
  refine ⟨C, gC, fun z => absurd z hns, fun _ es px pos t hg hr ha nst hd hl => ?_⟩
  cases es with
  | nil => exact absurd (List.length_eq_zero_iff.mp hl.symm) hns
  | cons e es =>
    have ha2 : PA X (e :: es) (fun σ H R => ∃ R1 : List V → Hp → Prop, t σ H R1 ∧ ∀ vs H1, R1 vs H1 → R vs H1) :=
      ⟨fun pos pins s σ H R I ⟨R1, h1, h2⟩ => thn (ha.run pos pins s σ H R1 I h1) fun us s1 ⟨vs, H1, I1, r1, q1⟩ => ⟨vs, H1, I1, r1, h2 vs H1 q1⟩⟩
    have m := pmk_oex (p := px) (pos := pos) T iC tI F (hr.mono hj) hb (ds := []) (dvs := []) .nil (passL) hg gC ha2 hd (star_cons (nst e List.mem_cons_self) es _) (star_any fun e' he' => nst e' (List.mem_cons_of_mem _ he'))
    intro pins s σ H Q I h
    refine m pins s σ H Q I ⟨_, h, fun vs H1 ⟨hv, q⟩ => ⟨by omega, fun a ha1 => ⟨a, C, vs, by rw [List.append_nil], hv, T, hno, upd_same, fun d H2 hd1 hda e1 e2 e3 => ⟨rfl, d, _, e1, e2, ?_, ?_⟩⟩⟩⟩
    · rw [upd_ne hda] at hd1; exact hd1
    · rw [upd_ne hda] at hd1
      have eu : upd (del H2 a) d (.xd (ns.zip vs).reverse) = upd H1 d (.xd (ns.zip vs).reverse) := by
        funext b
        by_cases hb : b = d
        · rw [hb, upd_same, upd_same]
        · rw [upd_ne hb, upd_ne hb]
          by_cases hba : b = a
          · rw [hba, del_same, ha1]
          · rw [del_ne hba, e3 b hba hb, upd_ne hba]
      rw [eu]
      exact q d hd1
end
section
variable {P : Program} {w : World} {K : Fg} {mg : Str → Option Value} {base : Heap}
theorem init1 {x qual f : Str} {st : Stmt} {fI : Addr} {fd : FuncData} {p1 p2 p3 p4 : Pos} {k : Nat} (F : Fun K x qual st fI fd) (S : FnScope ["self", f] ["self", f] (defScope st)) (hB : defBody st = [.Assign [.Attribute (.Name "self" p1) f p2] (.Name f p3) p4])
    (v0 : (defScope st).names.lookup ("self" : Str) = some .local) (v1 : (defScope st).names.lookup f = some .local) (hf : nm f = true) : FnOk P w K mg base (L2.CX P w) (k + 1) fI fd ["self", f] (spIn K [f]) := by
  refine F.okX S (fun vs H Q E ⟨a, C, ws, e, l, _⟩ => by rw [e, List.length_cons, l]; rfl) fun cdv A outer s H vs Q E hr h => ?_
  rw [hB]
  obtain ⟨a, C, ws, rfl, l, T, hno, ha, q⟩ := h
  match ws, l with
  | [v], _ =>
    refine ⟨_, pss_one (ps_ost (pe_var (i := 0) rfl (.inl v0) (by decide) (by decide)) (pe_var (i := 1) rfl (.inl v1) (nm_d hf).1 (nm_d hf).2)), ?_⟩
    refine ⟨v, rfl, .ref a, rfl, a, C, rfl, T, hno f List.mem_cons_self, .inl ⟨ha, fun dx hd hne => ?_⟩⟩
    refine q dx _ hd hne upd_same ?_ fun b hb hbd => ?_
    · rw [upd_ne hne, upd_same]; rfl
    · rw [upd_ne hb, upd_ne hbd]
theorem init2 {x qual f g : Str} {st : Stmt} {fI : Addr} {fd : FuncData} {p1 p2 p3 p4 p5 p6 p7 p8 : Pos} {k : Nat} (F : Fun K x qual st fI fd) (S : FnScope ["self", f, g] ["self", f, g] (defScope st)) (hB : defBody st = [.Assign [.Attribute (.Name "self" p1) f p2] (.Name f p3) p4, .Assign [.Attribute (.Name "self" p5) g p6] (.Name g p7) p8])
    (v0 : (defScope st).names.lookup ("self" : Str) = some .local) (v1 : (defScope st).names.lookup f = some .local) (v2 : (defScope st).names.lookup g = some .local) (hf : nm f = true) (hg : nm g = true) : FnOk P w K mg base (L2.CX P w) (k + 1) fI fd ["self", f, g] (spIn K [f, g]) := by
  refine F.okX S (fun vs H Q E ⟨a, C, ws, e, l, _⟩ => by rw [e, List.length_cons, l]; rfl) fun cdv A outer s H vs Q E hr h => ?_
  rw [hB]
  obtain ⟨a, C, ws, rfl, l, T, hno, ha, q⟩ := h
  match ws, l with
  | [v, u], _ =>
    refine ⟨_, pss_cons (ps_ost (pe_var (i := 0) rfl (.inl v0) (by decide) (by decide)) (pe_var (i := 1) rfl (.inl v1) (nm_d hf).1 (nm_d hf).2))
      (pss_one (ps_ost (pe_var (i := 0) rfl (.inl v0) (by decide) (by decide)) (pe_var (i := 2) rfl (.inl v2) (nm_d hg).1 (nm_d hg).2))), ?_⟩
    refine ⟨v, rfl, .ref a, rfl, a, C, rfl, T, hno f List.mem_cons_self, .inl ⟨ha, fun dx hd hne => ?_⟩⟩
    refine ⟨u, rfl, .ref a, rfl, a, C, rfl, T, hno g (List.mem_cons_of_mem _ List.mem_cons_self), .inr ⟨dx, _, upd_same, by rw [upd_ne hne, upd_same], by simp, ?_⟩⟩
    refine q dx _ hd hne ?_ ?_ fun b hb hbd => ?_
    · rw [upd_ne (Ne.symm hne), upd_same]
    · rw [upd_same]; rfl
    · rw [upd_ne hbd, upd_ne hb, upd_ne hbd]
end
end DL

/-! DMod: a module's defs, one behind the other; the law's own def. -/
namespace DL
open PySem PySem.Spec PyProof.Rows L2
def addS (sig : Str → Option (List Pm)) (f : Str) (ms : List Pm) : Str → Option (List Pm) := fun x => if x = f then some ms else sig x
def sig0 : Str → Option (List Pm) := fun _ => none
def G0 : Gm := fun _ _ => .bad
section
variable {P : Program} {w : World} {K : Fg} {mg : Str → Option Value} {base : Heap} {sig : Str → Option (List Pm)} {gis : Str → Option Gc} {cls : Str → Option (List Str)} {kd : Option KdI} {k n : Nat} {G : Gm}
theorem MdOk.mono (h : MdOk P w K mg base sig gis cls kd k G) {j : Nat} (hj : k ≤ j) : MdOk P w K mg base sig gis cls kd j G :=
  ⟨fun f ms e => by
    obtain ⟨fa, fd, ps, F, r⟩ := h.sig f ms e
    exact ⟨fa, fd, ps, F.mono hj, r⟩, h.gis, fun c ns e X h1 h2 h3 h4 h5 => (h.cls c ns e X h1 h2 h3 h4 h5).mono hj, h.blt, fun t e => (h.kd t e).mono hj⟩
theorem MdOk.add (h : MdOk P w K mg base sig gis cls kd k G) {f : Str} {ms : List Pm} {m : List D → M D} {fa : Addr} {fd : FuncData} {ps : List Str} (F : FnOk P w K mg base (L2.CX P w) (k + 1) fa fd ps (spOf K mg ms m))
    (gm : mg f = some (.ref fa)) (kp : PySem.W.keepIn K (.ref fa) = true) (bd : Binds K fd ps []) : MdOk P w K mg base (addS sig f ms) gis cls kd (k + 1) (ext G f m) := by
  have h' := h.mono (Nat.le_succ k)
  refine ⟨fun g ms' e => ?_, h'.gis, h'.cls, h'.blt, h'.kd⟩
  unfold addS at e
  have eg : ext G f m g = if g = f then m else G g := by
    funext ds
    show (if g = f then m ds else G g ds) = (if g = f then m else G g) ds
    split <;> rfl
  rw [eg]
  split at e
  · rename_i hg
    subst hg
    cases e
    rw [if_pos rfl]
    exact ⟨fa, fd, ps, F, gm, kp, bd⟩
  · rename_i hg
    rw [if_neg hg]
    exact h'.sig g ms' e
/-- a def of the text, told by its body -/
structure DefOk (K : Fg) (mg : Str → Option Value) (f : Str) (st : Stmt) (ps N : List Str) (ms : List Pm) (fa : Addr) (fd : FuncData) : Prop where
  F : Fun K f f st fa fd
  S : FnScope N ps (defScope st)
  hm : ms.length = ps.length
  gm : mg f = some (.ref fa)
  bd : Binds K fd ps []
theorem MdOk.next (h : MdOk P w K mg base sig gis cls kd k G) {f : Str} {st : Stmt} {ps N : List Str} {ms : List Pm} {fa : Addr} {fd : FuncData} {own : List Nat} {ss : Ss} {nl : Bool} (d : DefOk K mg f st ps N ms fa fd)
    (ht : trB n (ctOf N (defScope st) own sig gis cls kd nl) (defBody st) = some ss) (hnl : nl = true → nlK K = true := by intro z; cases z) : MdOk P w K mg base (addS sig f ms) gis cls kd (k + 1) (ext G f (run G ⟨ms, N.length, false, ss⟩)) :=
  h.add (fn_ok h d.F d.S d.hm ht hnl) d.gm d.F.kp d.bd
/-- a def that calls itself: its plain meaning to the depth n -/
def recM (G : Gm) (f : Str) (fn : Fn) : Nat → List D → M D
  | 0 => fun _ => .bad
  | n + 1 => run (ext G f (recM G f fn n)) fn
theorem MdOk.nextRec (h : MdOk P w K mg base sig gis cls kd k G) {f : Str} {st : Stmt} {ps N : List Str} {ms : List Pm} {fa : Addr} {fd : FuncData} {own : List Nat} {ss : Ss} {nl : Bool} (d : DefOk K mg f st ps N ms fa fd) (n' : Nat)
    (ht : trB n (ctOf N (defScope st) own (addS sig f ms) gis cls kd nl) (defBody st) = some ss) (hnl : nl = true → nlK K = true := by intro z; cases z) : MdOk P w K mg base (addS sig f ms) gis cls kd (k + n' + 1) (ext G f (recM G f ⟨ms, N.length, false, ss⟩ n')) := by
  have core : ∀ i, FnOk P w K mg base (L2.CX P w) (k + i + 1) fa fd ps (spOf K mg ms (recM G f ⟨ms, N.length, false, ss⟩ i)) := by
    intro i
    induction i with
    | zero => exact fn_bad
    | succ i ih => exact fn_ok ((h.mono (Nat.le_add_right k i)).add ih d.gm d.F.kp d.bd) d.F d.S d.hm ht hnl
  exact (h.mono (Nat.le_add_right k n')).add (core n') d.gm d.F.kp d.bd
/-- what the law promises -/
def spLw (K : Fg) (m : List D → M D) : Sp := fun vs H Q E => ∃ F ds, Sub F H ∧ ArgsR K F H [.sh] vs ds ∧ match m ds with
  | .ok d => ∀ v F' H', Grow F H F' H' → DV K F' v d → Q v H'
  | _ => False
theorem law_fn {fa : Addr} {fd : FuncData} {ps : List Str} {m : List D → M D} (F : FnOk P w K mg base (L2.CX P w) k fa fd ps (spOf K mg [.sh] m)) : FnOk P w K mg base (L2.CX P w) k fa fd ps (spLw K m) :=
  F.imp fun vs H Q E ⟨F', ds, s, a, z⟩ => ⟨F', ds, s, a, by
    cases e : m ds with
    | ok d => rw [e] at z; exact z
    | ex c fs => rw [e] at z; exact z.elim
    | bad => rw [e] at z; exact z.elim⟩
theorem law_sp {H : Hp} {a : Addr} {ns : List Int} {m : List D → M D} (hS : SqL K H a (ns.map V.int)) (hm : m [.list (ns.map .int)] = .ok (.bool true)) : spLw K m [.ref a] H (fun v _ => v = .bl true) fun _ _ _ => False := by
  refine ⟨H, [.list (ns.map .int)], Sub.refl _, .sh (.lst hS (DVs.of_ints ns)) .nil, ?_⟩
  rw [hm]
  exact fun v F' H' g h => h.bool_inv
theorem cx_end {P : Program} {w : World} : ∀ (H : Hp) (s : Shared) (e : Value) (s' : Shared), L2.CX P w [] H s (fun _ _ _ => False) e s' → False := fun H s e s' h => by
  obtain ⟨_, _, _, _, _, _, _, _, _, _, _, _, z⟩ := h
  exact z
theorem law_walk {l : PySem.W.OpenLaw} {k : Nat} {q : Program} {loose : List Str} {XP : (Str → Option Value) → Heap → Prop} {YP : World → Heap → Prop} {d : DefRec} {K : Params → PySem.W.Frag} {x : Str} {m : List D → M D}
    (hn : l.most = some 63) (hdf : d.params.defaults = []) (hr : Room k callerA) (hY : ∀ (w : World) (h : Heap), YP w h → (K w.params).In h)
    (hm : ∀ ns : List Int, ns.length ≤ 63 → m [.list (ns.map .int)] = .ok (.bool true))
    (F : ∀ (w : World) (mg : Str → Option Value) (fa : Addr) (h : Heap), (K w.params).In h → h.Ns mainGlobals mg → mg d.name = some (.ref fa) →
      ∃ fd : FuncData, (∀ (s : Shared) (u : Value), BindsTo s fd ⟨[u], []⟩ [(x, u)]) ∧ ∀ base : Heap, (K w.params).In base → base.Ns mainGlobals mg → FnOk l.prog w (K w.params) mg base (L2.CX l.prog w) k fa fd [x] (spLw (K w.params) m)) :
    PySem.W.WalkO q loose XP YP l.row.toRowW d [] (fun f vs => PySem.call f vs) :=
  L2.walk_of (n := 63) (k := k) (x := x) (CX := fun w => L2.CX l.prog w) (sp := fun w => spLw (K w.params) m) hn (by decide) hdf hr hY F (fun _ _ a ns hl _ hS => law_sp hS (hm ns hl)) fun _ H s e s' => cx_end H s e s'
end
end DL

/-! DTop: what the top of the text has left, as facts of its written part. -/
namespace DL
open PySem PySem.Spec PyProof.Rows L2
section
variable {P : Program} {w : World} {K : Fg} {mg : Str → Option Value} {base h : Heap}
def nsNone (K : Fg) : List Str → Prop
  | [] => True
  | x :: xs => PySem.W.nsIn K mainGlobals x = some none ∧ nsNone K xs
theorem nsNone.all (X : K.In h) (G : h.Ns mainGlobals mg) : ∀ {xs : List Str}, nsNone K xs → ∀ x ∈ xs, mg x = none
  | [], _, x, hx => by cases hx
  | y :: ys, hz, x, hx => by
    rcases List.mem_cons.mp hx with e | e
    · subst e; exact PySem.W.mg_none_of X G hz.1
    · exact nsNone.all X G hz.2 x e
theorem nsNone.n : nsNone K [] := trivial
theorem nsNone.c {x : Str} {xs : List Str} (a : PySem.W.nsIn K mainGlobals x = some none) (t : nsNone K xs) : nsNone K (x :: xs) := ⟨a, t⟩
def DefAt (K : Fg) (x : Str) (st : Stmt) : Prop := ∃ (f : Addr) (oc : Value) (od : Option Addr) (kV doc pm : Value) (an : Option Addr) (cdv ct : Value) (osl : Array (Option Value)),
  PySem.W.nsIn K mainGlobals x = some (some (.ref f)) ∧ K.lookup f = some ⟨oc, od, .func (PySem.W.fnOf x x (defArgs st) (defBody st) (defScope st) .none kV doc pm an cdv ct), osl⟩ ∧ PySem.W.codeIn K cdv x = true ∧ PySem.W.keepIn K (.ref f) = true
theorem DefAt.mk {x : Str} {st : Stmt} {f : Addr} {oc : Value} {od : Option Addr} {kV doc pm : Value} {an : Option Addr} {cdv ct : Value} {osl : Array (Option Value)} (a : PySem.W.nsIn K mainGlobals x = some (some (.ref f)))
    (l : K.lookup f = some ⟨oc, od, .func (PySem.W.fnOf x x (defArgs st) (defBody st) (defScope st) .none kV doc pm an cdv ct), osl⟩) (c : PySem.W.codeIn K cdv x = true) (k : PySem.W.keepIn K (.ref f) = true) : DefAt K x st := ⟨_, _, _, _, _, _, _, _, _, _, a, l, c, k⟩
def BindsAs (x : Str) (st : Stmt) (ps : List Str) : Prop := ∀ (kV doc pm : Value) (an : Option Addr) (cdv ct : Value) (us : List Value), us.length = ps.length → bindArgs (PySem.W.fnOf x x (defArgs st) (defBody st) (defScope st) .none kV doc pm an cdv ct) ⟨us, []⟩ = pure (ps.zip us)
theorem DefAt.ok {x : Str} {st : Stmt} {ps N : List Str} {ms : List Pm} (d : DefAt K x st) (X : K.In h) (G : h.Ns mainGlobals mg) (S : FnScope N ps (defScope st)) (hm : ms.length = ps.length) (hb : BindsAs x st ps) : ∃ fa fd, DefOk K mg x st ps N ms fa fd := by
  obtain ⟨f, oc, od, kV, doc, pm, an, cdv, ct, osl, a, l, c, k⟩ := d
  have F := fun_mk (st := st) l c k
  exact ⟨f, _, F, S, hm, PySem.W.mg_of X G a, F.binds hb⟩
/-- the law's own def -/
theorem DefAt.law {x p : Str} {st : Stmt} {N : List Str} {fa : Addr} (d : DefAt K x st) (X : K.In h) (G : h.Ns mainGlobals mg) (S : FnScope N [p] (defScope st)) (hb : BindsAs x st [p]) (hfa : mg x = some (.ref fa)) :
    ∃ fd, DefOk K mg x st [p] N [.sh] fa fd ∧ ∀ (s : Shared) (u : Value), BindsTo s fd ⟨[u], []⟩ [(p, u)] := by
  obtain ⟨f, oc, od, kV, doc, pm, an, cdv, ct, osl, a, l, c, k⟩ := d
  have e := hfa.symm.trans (PySem.W.mg_of X G a)
  cases e
  have F := fun_mk (st := st) l c k
  exact ⟨_, ⟨F, S, rfl, PySem.W.mg_of X G a, F.binds hb⟩, fun s u => .of_eq (hb kV doc pm an cdv ct [u] rfl)⟩
def ClsAt0 (K : Fg) (c : Str) : Prop := ∃ C : Addr, PySem.W.nsIn K mainGlobals c = some (some (.ref C)) ∧ PySem.W.excIn K C [.type "ValueError", .type "Exception", .type "BaseException", .type "object"] "ValueError.__new__" = true ∧
  PySem.W.keepIn K (.ref C) = true ∧ PySem.W.subIn K (.ref C) (.type "BaseException") = some true ∧ PySem.W.typeIn K (.ref C) = some (.type "type")
theorem ClsAt0.mk {c : Str} {C : Addr} (a : PySem.W.nsIn K mainGlobals c = some (some (.ref C))) (q : PySem.W.excIn K C [.type "ValueError", .type "Exception", .type "BaseException", .type "object"] "ValueError.__new__" = true)
    (k : PySem.W.keepIn K (.ref C) = true) (b : PySem.W.subIn K (.ref C) (.type "BaseException") = some true) (t : PySem.W.typeIn K (.ref C) = some (.type "type")) : ClsAt0 K c := ⟨C, a, q, k, b, t⟩
theorem strAt {c : Str} {i : Str} {t : Tok} (a : PySem.W.nsIn K mainGlobals c = some (some (.str i t))) : ∃ t, PySem.W.nsIn K mainGlobals c = some (some (.str i t)) := ⟨t, a⟩
theorem intAt {c : Str} {i : Int} {t : Tok} (a : PySem.W.nsIn K mainGlobals c = some (some (.int i t))) : ∃ t, PySem.W.nsIn K mainGlobals c = some (some (.int i t)) := ⟨t, a⟩
theorem ClsAt0.ra {c : Str} (d : ClsAt0 K c) (X : K.In h) (G : h.Ns mainGlobals mg) (Y : Cx) (h3 : Y.K = K) (h4 : Y.mg = mg) (j : Nat) : RaG Y j c [] := by
  obtain ⟨C, a, q, k, b, t⟩ := d
  subst h3 h4
  exact ra_none PySem.F.excBase_ValueError q (PySem.W.mg_of X G a) k (raises_own b t)
def noF (K : Fg) (C : Addr) : List Str → Prop
  | [] => True
  | x :: xs => PySem.W.findIn K (.ref C) x = some none ∧ noF K C xs
theorem noF.all {C : Addr} : ∀ {xs : List Str}, noF K C xs → ∀ x ∈ xs, PySem.W.findIn K (.ref C) x = some none
  | [], _, x, hx => by cases hx
  | y :: ys, hz, x, hx => by
    rcases List.mem_cons.mp hx with e | e
    · subst e; exact hz.1
    · exact noF.all hz.2 x e
theorem noF.n {C : Addr} : noF K C [] := trivial
theorem noF.c {C : Addr} {x : Str} {xs : List Str} (a : PySem.W.findIn K (.ref C) x = some none) (t : noF K C xs) : noF K C (x :: xs) := ⟨a, t⟩
def ClsAtF (K : Fg) (c qual : Str) (ns : List Str) (st : Stmt) : Prop := ∃ (C fI : Addr) (nm q : Str) (N : Addr) (bs bm : List Value) (sn : List Str) (sub : List Value) (ab : Bool) (col : Option Bool) (dd : Option Addr) (k0 k1 k2 k3 k5 : Option Value)
    (oc : Value) (od : Option Addr) (kV doc pm : Value) (an : Option Addr) (cdv ct : Value) (osl : Array (Option Value)),
  PySem.W.nsIn K mainGlobals c = some (some (.ref C)) ∧ K.lookup C = some (excClassObj nm q C N bs bm true sn sub ab col dd k0 k1 k2 k3 k5 "ValueError.__new__") ∧ PySem.HandSPX.refsVE bm = true ∧ PySem.W.findIn K (.ref C) "__setattr__" = some (some (.builtin "object.__setattr__")) ∧
    PySem.W.subIn K (.ref C) (.type "BaseException") = some true ∧ PySem.W.typeIn K (.ref C) = some (.type "type") ∧ PySem.W.keepIn K (.ref C) = true ∧ PySem.W.findIn K (.ref C) "__init__" = some (some (.ref fI)) ∧ PySem.W.typeIn K (.ref fI) = some (.type "function") ∧ noF K C ns ∧
    K.lookup fI = some ⟨oc, od, .func (PySem.W.fnOf "__init__" qual (defArgs st) (defBody st) (defScope st) .none kV doc pm an cdv ct), osl⟩ ∧ PySem.W.codeIn K cdv qual = true ∧ PySem.W.keepIn K (.ref fI) = true
theorem ClsAtF.mk {c qual : Str} {ns : List Str} {st : Stmt} {C fI : Addr} {nm q : Str} {N : Addr} {bs bm : List Value} {sn : List Str} {sub : List Value} {ab : Bool} {col : Option Bool} {dd : Option Addr} {k0 k1 k2 k3 k5 : Option Value}
    {oc : Value} {od : Option Addr} {kV doc pm : Value} {an : Option Addr} {cdv ct : Value} {osl : Array (Option Value)} (a : PySem.W.nsIn K mainGlobals c = some (some (.ref C)))
    (l : K.lookup C = some (excClassObj nm q C N bs bm true sn sub ab col dd k0 k1 k2 k3 k5 "ValueError.__new__")) (r : PySem.HandSPX.refsVE bm = true) (sa : PySem.W.findIn K (.ref C) "__setattr__" = some (some (.builtin "object.__setattr__")))
    (ex : PySem.W.subIn K (.ref C) (.type "BaseException") = some true) (ty : PySem.W.typeIn K (.ref C) = some (.type "type")) (kp : PySem.W.keepIn K (.ref C) = true) (ic : PySem.W.findIn K (.ref C) "__init__" = some (some (.ref fI))) (ti : PySem.W.typeIn K (.ref fI) = some (.type "function")) (no : noF K C ns)
    (li : K.lookup fI = some ⟨oc, od, .func (PySem.W.fnOf "__init__" qual (defArgs st) (defBody st) (defScope st) .none kV doc pm an cdv ct), osl⟩) (ci : PySem.W.codeIn K cdv qual = true) (ki : PySem.W.keepIn K (.ref fI) = true) : ClsAtF K c qual ns st :=
  ⟨C, fI, nm, q, N, bs, bm, sn, sub, ab, col, dd, k0, k1, k2, k3, k5, oc, od, kV, doc, pm, an, cdv, ct, osl, a, l, r, sa, ex, ty, kp, ic, ti, no, li, ci, ki⟩
theorem ClsAtF.ra {c qual : Str} {ns : List Str} {st : Stmt} (d : ClsAtF K c qual ns st) (X : K.In h) (G : h.Ns mainGlobals mg) (hns : ns ≠ []) (hl : ns.length ≤ 10)
    (hi : ∀ (P : Program) (w : World) (base : Heap) (fI : Addr) (fd : FuncData), Fun K "__init__" qual st fI fd → FnOk P w K mg base (L2.CX P w) 1 fI fd (("self" : Str) :: ns) (spIn K ns))
    (hb : ∀ (kV doc pm : Value) (an : Option Addr) (cdv ct : Value) (us : List Value), us.length = (("self" : Str) :: ns).length → bindArgs (PySem.W.fnOf "__init__" qual (defArgs st) (defBody st) (defScope st) .none kV doc pm an cdv ct) ⟨us, []⟩ = pure ((("self" : Str) :: ns).zip us))
    (Y : Cx) (h3 : Y.K = K) (h4 : Y.mg = mg) {j : Nat} (hj : 2 ≤ j) : RaG Y j c ns := by
  obtain ⟨C, fI, nm, q, N, bs, bm, sn, sub, ab, col, dd, k0, k1, k2, k3, k5, oc, od, kV, doc, pm, an, cdv, ct, osl, a, l, r, sa, ex, ty, kp, iC, tI, no, li, ci, ki⟩ := d
  subst h3 h4
  have F := fun_mk (st := st) li ci ki
  exact ra_some hj ⟨⟨nm, q, N, bs, bm, sn, sub, ab, col, dd, k0, k1, k2, k3, k5, l, r⟩, sa, ex, ty, kp⟩ iC tI (hi _ _ _ _ _ F) (F.binds (ps := "self" :: ns) hb) (PySem.W.mg_of X G a) no.all hns hl
end
end DL

/-! DKd4: what the top has left of the errors' classes and of the def that tells their kind. -/
namespace DL
open PySem PySem.Spec PyProof.Rows L2
def clsRow (K : Fg) : List Str → List Addr → Prop
  | [], [] => True
  | c :: cs, D :: Ds => (PySem.W.nsIn K mainGlobals c = some (some (.ref D)) ∧ PySem.W.hasDictIn K D = true ∧ PySem.W.typeIn K (.ref D) = some (.type "type")) ∧ clsRow K cs Ds
  | _, _ => False
theorem clsRow.n {K : Fg} : clsRow K [] [] := trivial
theorem clsRow.c {K : Fg} {c : Str} {cs : List Str} {D : Addr} {Ds : List Addr} (a : PySem.W.nsIn K mainGlobals c = some (some (.ref D))) (b : PySem.W.hasDictIn K D = true) (t : PySem.W.typeIn K (.ref D) = some (.type "type")) (r : clsRow K cs Ds) : clsRow K (c :: cs) (D :: Ds) := ⟨⟨a, b, t⟩, r⟩
def subRow (K : Fg) (C : Addr) : List Addr → List Bool → Prop
  | [], [] => True
  | D :: Ds, b :: bs => (PySem.W.subIn K (.ref C) (.ref D) = some b ∧ (Value.ref C == Value.ref D && !b) = false) ∧ subRow K C Ds bs
  | _, _ => False
theorem subRow.n {K : Fg} {C : Addr} : subRow K C [] [] := trivial
theorem subRow.c {K : Fg} {C : Addr} {D : Addr} {Ds : List Addr} {b : Bool} {bs : List Bool} (a : PySem.W.subIn K (.ref C) (.ref D) = some b) (e : (Value.ref C == Value.ref D && !b) = false) (r : subRow K C Ds bs) : subRow K C (D :: Ds) (b :: bs) := ⟨⟨a, e⟩, r⟩
def ErRow (K : Fg) (M : Addr) (Ds : List Addr) (c : Str) (ns : List Str) (bs : List Bool) : Prop := ∃ C : Addr, PySem.W.nsIn K mainGlobals c = some (some (.ref C)) ∧ ErC K C ∧ PySem.W.subIn K (.ref C) (.type "ValueError") = some true ∧ PySem.W.subIn K (.ref C) (.ref M) = some true ∧ noF K C ns ∧ subRow K C Ds bs
theorem ErRow.mk {K : Fg} {M C : Addr} {Ds : List Addr} {c : Str} {ns : List Str} {bs : List Bool} (a : PySem.W.nsIn K mainGlobals c = some (some (.ref C)))
    (ga : PySem.W.findIn K (.ref C) "__getattribute__" = some (some (.builtin "BaseException.__getattribute__"))) (gg : PySem.W.findIn K (.ref C) "__getattr__" = some none) (ex : PySem.W.subIn K (.ref C) (.type "BaseException") = some true) (hd : PySem.W.hasDictIn K C = true)
    (ca : PySem.W.findIn K (.ref C) "__class__" = some (some (.builtin "object.__class__"))) (ob : PySem.W.mroIn K C (.type "object") = some true) (gs : PySem.W.specialIn K (.builtin "object.__class__") "__get__" = some (some (.builtin "getset_descriptor.__get__"))) (tk : PySem.W.takesIn K (.builtin "object.__class__") = some true)
    (v : PySem.W.subIn K (.ref C) (.type "ValueError") = some true) (m : PySem.W.subIn K (.ref C) (.ref M) = some true) (no : noF K C ns) (r : subRow K C Ds bs) : ErRow K M Ds c ns bs := ⟨C, a, ⟨ga, gg, ex, hd, ca, ob, gs, tk⟩, v, m, no, r⟩
def erRows (K : Fg) (M : Addr) (Ds : List Addr) : KTb → List (List Bool) → Prop
  | [], [] => True
  | (c, _, ns) :: t, bs :: r => ErRow K M Ds c ns bs ∧ erRows K M Ds t r
  | _, _ => False
theorem erRows.n {K : Fg} {M : Addr} {Ds : List Addr} : erRows K M Ds [] [] := trivial
theorem erRows.c {K : Fg} {M : Addr} {Ds : List Addr} {c : Str} {k : Int} {ns : List Str} {t : KTb} {bs : List Bool} {r : List (List Bool)} (a : ErRow K M Ds c ns bs) (e : erRows K M Ds t r) : erRows K M Ds ((c, k, ns) :: t) (bs :: r) := ⟨a, e⟩
/-- the numbers are right -/
def rowsOk (cs : List Str) : KTb → List (List Bool) → Bool
  | [], [] => true
  | (c, k, _) :: t, bs :: r => decide (bs = cs.map fun x => decide (x = c)) && decide (bs.count true = 1) && decide (((bs.idxOf true : Nat) : Int) = k) && rowsOk cs t r
  | _, _ => false
theorem rows_at {K : Fg} {M : Addr} {Ds : List Addr} {cs : List Str} : ∀ {t : KTb} {r : List (List Bool)} {c : Str} {k : Int} {ns : List Str}, erRows K M Ds t r → rowsOk cs t r = true → t.lookup c = some (k, ns) →
    ∃ bs, ErRow K M Ds c ns bs ∧ bs = cs.map (fun x => decide (x = c)) ∧ bs.count true = 1 ∧ ((bs.idxOf true : Nat) : Int) = k
  | [], _, _, _, _, _, _, h => by cases h
  | (c', k', ns') :: t, [], _, _, _, h, _, _ => h.elim
  | (c', k', ns') :: t, bs :: r, c, k, ns, ⟨h1, h2⟩, ok, h => by
    unfold rowsOk at ok
    simp only [Bool.and_eq_true, decide_eq_true_eq] at ok
    obtain ⟨⟨⟨o1, o2⟩, o3⟩, o4⟩ := ok
    rw [List.lookup_cons] at h
    by_cases q : (c == c') = true
    · rw [q] at h
      cases h
      cases (beq_iff_eq.mp q)
      exact ⟨bs, h1, o1, o2, o3⟩
    · rw [Bool.not_eq_true] at q
      rw [q] at h
      exact rows_at h2 o4 h
theorem cls_at {K : Fg} {C : Addr} : ∀ {cs : List Str} {Ds : List Addr} {bs : List Bool} {f : Str → Bool}, clsRow K cs Ds → subRow K C Ds bs → bs = cs.map f → ∀ c ∈ cs, ∃ D, PySem.W.nsIn K mainGlobals c = some (some (.ref D)) ∧ PySem.W.kitOne K (.ref C) (.ref D) = some (f c)
  | [], _, _, _, _, _, _, c, hc => by cases hc
  | c' :: cs, [], _, _, h, _, _, _, _ => h.elim
  | c' :: cs, D :: Ds, [], _, _, h, _, _, _ => h.elim
  | c' :: cs, D :: Ds, b :: bs, f, ⟨⟨h1, h2, h3⟩, h4⟩, ⟨⟨g1, g2⟩, g3⟩, e, c, hc => by
    rw [List.map_cons, List.cons.injEq] at e
    rcases List.mem_cons.mp hc with z | z
    · subst z
      exact ⟨D, h1, by rw [← e.1]; exact kit_ref h2 h3 g1 g2⟩
    · exact cls_at h4 g3 e.2 c z
def glB (sc : Scope) (x : Str) : Bool := sc.names.lookup x == some .globalImplicit
theorem glB_ok {sc : Scope} {x : Str} (h : glB sc x = true) : sc.names.lookup x = some .globalImplicit := by
  unfold glB at h
  cases e : sc.names.lookup x with
  | none => rw [e] at h; cases h
  | some k => rw [e] at h; cases k <;> first | rfl | (cases h; done)
section
variable {P : Program} {w : World} {K : Fg} {mg : Str → Option Value} {base h : Heap}
theorem kd_mk {t : KdI} {st : Stmt} {cs : List Str} {fx : Str} {Ds : List Addr} {M : Addr} {bss : List (List Bool)} (d : DefAt K t.kn st) (X : K.In h) (G : h.Ns mainGlobals mg) (S : FnScope [t.ex, fx] [t.ex] (defScope st)) (hb : BindsAs t.kn st [t.ex])
    (q : kdBody t.ex fx (defBody st) = some cs) (v1 : (defScope st).names.lookup t.ex = some .local) (v2 : (defScope st).names.lookup fx = some .local) (n1 : nm t.ex = true) (n2 : nm fx = true)
    (gl : (glB (defScope st) "isinstance" && glB (defScope st) "ValueError" && cs.all (glB (defScope st))) = true) (hc : cs.length ≤ 1000) (ok : rowsOk cs t.tbl bss = true)
    (i0 : PySem.W.nsIn K mainGlobals "isinstance" = some none) (v0 : PySem.W.nsIn K mainGlobals "ValueError" = some none) (m0 : PySem.W.nsIn K mainGlobals t.me = some (some (.ref M))) (m1 : PySem.W.subIn K (.ref M) (.type "BaseException") = some true) (m2 : PySem.W.hasDictIn K M = true) (m3 : PySem.W.typeIn K (.ref M) = some (.type "type"))
    (row : clsRow K cs Ds) (rows : erRows K M Ds t.tbl bss) : KdOk P w K mg base t 1 := by
  rw [Bool.and_eq_true, Bool.and_eq_true] at gl
  obtain ⟨⟨g1, g2⟩, g3⟩ := gl
  obtain ⟨f, oc, od, kV, doc, pm, an, cdv, ct, osl, a, lk, cd, kp⟩ := d
  have F := fun_mk (st := st) lk cd kp
  refine ⟨⟨M, PySem.W.mg_of X G m0, fun c k ns hl C hC => ?_⟩, f, _, PySem.W.mg_of X G a, kp, F.binds hb, fun c k ns hl C hC e he eo => ?_⟩
  · obtain ⟨bs, ⟨C', e1, e2, e3, e4, e5, e6⟩, _⟩ := rows_at rows ok hl
    have := hC.symm.trans (PySem.W.mg_of X G e1)
    cases this
    exact ⟨e2, exm_er m1 m2 m3 e4, e5.all⟩
  · obtain ⟨bs, ⟨C', e1, e2, e3, e4, e5, e6⟩, o1, o2, o3⟩ := rows_at rows ok hl
    have := hC.symm.trans (PySem.W.mg_of X G e1)
    cases this
    subst he
    refine fnK_of F S fun Y hP hw hK hm hbs hN hsc hpn hfn => ?_
    subst hP hw hK hm hbs
    have kx : KdX Y e t.ex fx (fun x => decide (x = c)) cs := ⟨hpn, eo, e2, hN, by rw [hN]; exact S.nd, by rw [hsc]; exact v1, by rw [hsc]; exact v2, n1, n2, by show Y.env.scope.names.lookup _ = _; rw [hsc]; exact glB_ok g1, PySem.W.mg_none_of X G i0,
      by show Y.env.scope.names.lookup _ = _; rw [hsc]; exact glB_ok g2, PySem.W.mg_none_of X G v0, kit_val e3, fun c' hc' => ⟨by show Y.env.scope.names.lookup _ = _; rw [hsc]; exact glB_ok (List.all_eq_true.mp g3 c' hc'), by
        obtain ⟨D, d1, d2⟩ := cls_at row e6 o1 c' hc'
        exact ⟨D, PySem.W.mg_of X G d1, d2⟩⟩⟩
    refine ⟨_, kdBody_ok kx q, fun H Q ⟨h1, h2⟩ => ⟨rfl, rfl, h1, hc, by rw [← o1]; exact o2, fun H' s => ?_⟩⟩
    rw [← o1, o3]
    exact h2 H' s
end
end DL
namespace DL
open PySem PySem.Spec PyProof.Rows L2
def KdFacts (K : Fg) (me : Str) (cs : List Str) (tbl : KTb) (bss : List (List Bool)) : Prop := ∃ (M : Addr) (Ds : List Addr), PySem.W.nsIn K mainGlobals "isinstance" = some none ∧ PySem.W.nsIn K mainGlobals "ValueError" = some none ∧ PySem.W.nsIn K mainGlobals me = some (some (.ref M)) ∧ PySem.W.subIn K (.ref M) (.type "BaseException") = some true ∧ PySem.W.hasDictIn K M = true ∧ PySem.W.typeIn K (.ref M) = some (.type "type") ∧ clsRow K cs Ds ∧ erRows K M Ds tbl bss
theorem KdFacts.mk {K : Fg} {me : Str} {cs : List Str} {tbl : KTb} {bss : List (List Bool)} {M : Addr} {Ds : List Addr} (i0 : PySem.W.nsIn K mainGlobals "isinstance" = some none) (v0 : PySem.W.nsIn K mainGlobals "ValueError" = some none) (m0 : PySem.W.nsIn K mainGlobals me = some (some (.ref M)))
    (m1 : PySem.W.subIn K (.ref M) (.type "BaseException") = some true) (m2 : PySem.W.hasDictIn K M = true) (m3 : PySem.W.typeIn K (.ref M) = some (.type "type")) (row : clsRow K cs Ds) (rows : erRows K M Ds tbl bss) : KdFacts K me cs tbl bss := ⟨M, Ds, i0, v0, m0, m1, m2, m3, row, rows⟩
theorem KdFacts.ok {P : Program} {w : World} {K : Fg} {mg : Str → Option Value} {base h : Heap} {t : KdI} {st : Stmt} {cs : List Str} {fx : Str} {bss : List (List Bool)} (k : KdFacts K t.me cs t.tbl bss) (d : DefAt K t.kn st) (X : K.In h) (G : h.Ns mainGlobals mg) (S : FnScope [t.ex, fx] [t.ex] (defScope st)) (hb : BindsAs t.kn st [t.ex])
    (q : kdBody t.ex fx (defBody st) = some cs) (v1 : (defScope st).names.lookup t.ex = some .local) (v2 : (defScope st).names.lookup fx = some .local) (n1 : nm t.ex = true) (n2 : nm fx = true)
    (gl : (glB (defScope st) "isinstance" && glB (defScope st) "ValueError" && cs.all (glB (defScope st))) = true) (hc : cs.length ≤ 1000) (ok : rowsOk cs t.tbl bss = true) : KdOk P w K mg base t 1 := by
  obtain ⟨M, Ds, i0, v0, m0, m1, m2, m3, row, rows⟩ := k
  exact kd_mk d X G S hb q v1 v2 n1 n2 gl hc ok i0 v0 m0 m1 m2 m3 row rows
end DL

/-! PKit: plain facts of the small language over ints, tuples of ints, families of them. -/
namespace DL
open PySem PySem.W
abbrev I (i : Int) : D := .int i
abbrev B (b : Bool) : D := .bool b
def fD (F : List (List Int)) : D := .tuple (F.map tD)
def lD (F : List (List Int)) : D := .list (F.map tD)
/-! comprehensions, loops -/
theorem lc_map {α : Type} {tg : Tg} {elt : Rho → M D} {c : Rho → M Bool} {r : Rho} {f : α → D} {p : α → Bool} {g : α → D} : ∀ {xs : List α}, (∀ x ∈ xs, ∃ r1, bindT tg (f x) r = some r1 ∧ c r1 = .ok (p x) ∧ (p x = true → elt r1 = .ok (g x))) →
    lcRun tg elt c r (xs.map f) = .ok ((xs.filter p).map g)
  | [], _ => rfl
  | x :: xs, h => by
    obtain ⟨r1, h1, h2, h3⟩ := h x List.mem_cons_self
    have ih := lc_map (xs := xs) fun y hy => h y (List.mem_cons_of_mem _ hy)
    rw [List.map_cons]
    unfold lcRun
    rw [h1, M.ofO_some, M.bind_ok, h2, M.bind_ok]
    cases hp : p x with
    | true => rw [if_pos rfl, h3 hp, M.bind_ok, ih, M.bind_ok, List.filter_cons_of_pos hp, List.map_cons]
    | false => rw [if_neg Bool.false_ne_true, ih, List.filter_cons_of_neg (by rw [hp]; decide)]
theorem lc_map' {α : Type} {tg : Tg} {elt : Rho → M D} {c : Rho → M Bool} {r : Rho} {f : α → D} {p : α → Bool} {xs : List α} (h : ∀ x ∈ xs, ∃ r1, bindT tg (f x) r = some r1 ∧ c r1 = .ok (p x) ∧ (p x = true → elt r1 = .ok (f x))) :
    lcRun tg elt c r (xs.map f) = .ok ((xs.filter p).map f) := lc_map h
theorem noX_ok {α : Type} (a : α) : noX (.ok a) = .ok a := rfl
theorem mkLst_ok {ds : List D} (h : ds.length ≤ line) : mkLst ds = .ok (.list ds) := if_pos h
theorem mkTup_ok {ds : List D} (h : ds.length ≤ line) : mkTup ds = .ok (.tuple ds) := if_pos h
theorem run_ret {G : Gm} {f : Fn} {ds : List D} {d : D} (r0 : Rho) (hl : ds.length = f.ps.length) (h0 : start f.ps f.n ds = r0) (h : execs G f.body r0 = .ok (.ret d)) : run G f ds = .ok d := by
  unfold run
  rw [if_pos hl, h0, h]
  rfl
theorem run_end {G : Gm} {f : Fn} {ds : List D} {r : Rho} (r0 : Rho) (hl : ds.length = f.ps.length) (h0 : start f.ps f.n ds = r0) (h : execs G f.body r0 = .ok (.next r)) : run G f ds = .ok .none := by
  unfold run
  rw [if_pos hl, h0, h]
  rfl
theorem run_ex {G : Gm} {f : Fn} {ds : List D} {c : PySem.Str} {fs : List (PySem.Str × D)} (r0 : Rho) (hl : ds.length = f.ps.length) (h0 : start f.ps f.n ds = r0) (h : execs G f.body r0 = .ex c fs) : run G f ds = .ex c fs := by
  unfold run
  rw [if_pos hl, h0, h]
  rfl
theorem bind_ex' {α β : Type} {c : PySem.Str} {fs : List (PySem.Str × D)} {f : α → M β} : (M.ex c fs).bind f = .ex c fs := rfl
theorem evB_bool (b : Bool) : evB (.ok (.bool b)) = .ok b := rfl
theorem getSh0 {d : D} {r : Rho} : getSh (.sh d :: r) 0 = .ok d := rfl
theorem getSh_s {s : Sl} {r : Rho} {i : Nat} : getSh (s :: r) (i + 1) = getSh r i := rfl
theorem getB0 {d : D} {r : Rho} : getB (.sh d :: r) 0 = .ok d := rfl
theorem getB0o {d : D} {r : Rho} : getB (.own d :: r) 0 = .ok d := rfl
theorem getB_s {s : Sl} {r : Rho} {i : Nat} : getB (s :: r) (i + 1) = getB r i := rfl
/-! equality, membership -/
theorem eqv_tD (a b : List Int) : PyData.eqv (tD a) (tD b) = decide (a = b) := by
  unfold tD
  rw [PyData.eqv]
  exact ked_eqvAll a b
theorem eqvAll_tD : ∀ (F E : List (List Int)), PyData.eqvAll (F.map tD) (E.map tD) = decide (F = E)
  | [], [] => by rw [List.map_nil, PyData.eqvAll]; rfl
  | [], y :: E => by rw [List.map_nil, List.map_cons, PyData.eqvAll]; simp
  | x :: F, [] => by rw [List.map_nil, List.map_cons, PyData.eqvAll]; simp
  | x :: F, y :: E => by
    rw [List.map_cons, List.map_cons, PyData.eqvAll, eqv_tD, eqvAll_tD F E]
    by_cases h : x = y <;> by_cases g : F = E <;> simp [h, g]
theorem eqv_fD (F E : List (List Int)) : PyData.eqv (fD F) (fD E) = decide (F = E) := by
  unfold fD
  rw [PyData.eqv]
  exact eqvAll_tD F E
theorem eqv_lD (F E : List (List Int)) : PyData.eqv (lD F) (lD E) = decide (F = E) := by
  unfold lD
  rw [PyData.eqv]
  exact eqvAll_tD F E
theorem depthAll_tD : ∀ (F : List (List Int)), PyData.depthAll (F.map tD) ≤ 2
  | [] => by rw [List.map_nil, PyData.depthAll]; omega
  | n :: k => by
    rw [List.map_cons, PyData.depthAll]
    have h1 := depthAll_tD k
    have h2 := depth_tD n
    omega
theorem depth_fD (F : List (List Int)) : (fD F).depth ≤ 3 := by
  unfold fD
  rw [PyData.depth]
  have := depthAll_tD F
  omega
theorem depth_lD (F : List (List Int)) : (lD F).depth ≤ 3 := by
  unfold lD
  rw [PyData.depth]
  have := depthAll_tD F
  omega
theorem okDep_of {a b : D} (h : a.depth ≤ 64) : okDep a b = true := decide_eq_true (Nat.le_trans (Nat.min_le_left _ _) h)
theorem depth_int (i : Int) : PyData.depth (.int i) ≤ 64 := by rw [PyData.depth]; omega
theorem mem_ints (i : Int) : ∀ (k : List Int), ((k.map PyData.int).any fun y => PyData.eqv y (.int i)) = decide (i ∈ k)
  | [] => rfl
  | n :: k => by
    rw [List.map_cons, List.any_cons, mem_ints i k, PyData.eqv]
    by_cases h : n = i
    · subst h; simp
    · have h2 : ¬ i = n := fun e => h e.symm
      simp [h, h2]
theorem mem_tDs (x : List Int) : ∀ (F : List (List Int)), ((F.map tD).any fun y => PyData.eqv y (tD x)) = decide (x ∈ F)
  | [] => rfl
  | n :: k => by
    rw [List.map_cons, List.any_cons, mem_tDs x k, eqv_tD]
    by_cases h : n = x
    · subst h; simp
    · have h2 : ¬ x = n := fun e => h e.symm
      simp [h, h2]
theorem c_mem (i : Int) (k : List Int) : cmpD .mem (.int i) (tD k) = .ok (.bool (decide (i ∈ k))) := by
  show (if okDep (tD k) (.int i) = true then M.ok (PyData.bool ((k.map PyData.int).any fun y => PyData.eqv y (.int i))) else .bad) = _
  rw [if_pos (okDep_of (Nat.le_trans (depth_tD k) (by omega))), mem_ints]
theorem c_nmem (i : Int) (k : List Int) : cmpD .nmem (.int i) (tD k) = .ok (.bool (!decide (i ∈ k))) := by
  show (if okDep (tD k) (.int i) = true then M.ok (PyData.bool (!(k.map PyData.int).any fun y => PyData.eqv y (.int i))) else .bad) = _
  rw [if_pos (okDep_of (Nat.le_trans (depth_tD k) (by omega))), mem_ints]
theorem c_memF (x : List Int) (F : List (List Int)) : cmpD .mem (tD x) (fD F) = .ok (.bool (decide (x ∈ F))) := by
  show (if okDep (fD F) (tD x) = true then M.ok (PyData.bool ((F.map tD).any fun y => PyData.eqv y (tD x))) else .bad) = _
  rw [if_pos (okDep_of (Nat.le_trans (depth_fD F) (by omega))), mem_tDs]
theorem c_eqi (i j : Int) : cmpD .eq (.int i) (.int j) = .ok (.bool (decide (i = j))) := by
  show (if okDep (.int i) (.int j) = true then M.ok (PyData.bool (PyData.eqv (.int i) (.int j))) else .bad) = _
  rw [if_pos (okDep_of (depth_int i)), PyData.eqv]
  rfl
theorem c_nei (i j : Int) : cmpD .ne (.int i) (.int j) = .ok (.bool (!decide (i = j))) := by
  show (if okDep (.int i) (.int j) = true then M.ok (PyData.bool (!PyData.eqv (.int i) (.int j))) else .bad) = _
  rw [if_pos (okDep_of (depth_int i)), PyData.eqv]
  rfl
theorem c_eqt (a b : List Int) : cmpD .eq (tD a) (tD b) = .ok (.bool (decide (a = b))) := by
  show (if okDep (tD a) (tD b) = true then M.ok (PyData.bool (PyData.eqv (tD a) (tD b))) else .bad) = _
  rw [if_pos (okDep_of (Nat.le_trans (depth_tD a) (by omega))), eqv_tD]
theorem c_eql (a b : List (List Int)) : cmpD .eq (lD a) (lD b) = .ok (.bool (decide (a = b))) := by
  show (if okDep (lD a) (lD b) = true then M.ok (PyData.bool (PyData.eqv (lD a) (lD b))) else .bad) = _
  rw [if_pos (okDep_of (Nat.le_trans (depth_lD a) (by omega))), eqv_lD]
theorem c_eqf (a b : List (List Int)) : cmpD .eq (fD a) (fD b) = .ok (.bool (decide (a = b))) := by
  show (if okDep (fD a) (fD b) = true then M.ok (PyData.bool (PyData.eqv (fD a) (fD b))) else .bad) = _
  rw [if_pos (okDep_of (Nat.le_trans (depth_fD a) (by omega))), eqv_fD]
theorem c_net (a b : List Int) : cmpD .ne (tD a) (tD b) = .ok (.bool (!decide (a = b))) := by
  show (if okDep (tD a) (tD b) = true then M.ok (PyData.bool (!PyData.eqv (tD a) (tD b))) else .bad) = _
  rw [if_pos (okDep_of (Nat.le_trans (depth_tD a) (by omega))), eqv_tD]
theorem c_nef (a b : List (List Int)) : cmpD .ne (fD a) (fD b) = .ok (.bool (!decide (a = b))) := by
  show (if okDep (fD a) (fD b) = true then M.ok (PyData.bool (!PyData.eqv (fD a) (fD b))) else .bad) = _
  rw [if_pos (okDep_of (Nat.le_trans (depth_fD a) (by omega))), eqv_fD]
theorem okLt_tD (a b : List Int) : okLt (tD a) (tD b) = true := by
  unfold okLt
  rw [alike_tD, decide_eq_true (Nat.le_trans (depth_tD a) (by omega : 2 ≤ 64))]
  rfl
theorem c_let (a b : List Int) : cmpD .le (tD a) (tD b) = .ok (.bool (!ltI b a)) := by
  show (if okLt (tD a) (tD b) = true then M.ok (PyData.bool (!dataLt (tD b) (tD a))) else .bad) = _
  rw [if_pos (okLt_tD a b), ltI_data]
theorem c_ltt (a b : List Int) : cmpD .lt (tD a) (tD b) = .ok (.bool (ltI a b)) := by
  show (if okLt (tD a) (tD b) = true then M.ok (PyData.bool (dataLt (tD a) (tD b))) else .bad) = _
  rw [if_pos (okLt_tD a b), ltI_data]
theorem c_lti (i j : Int) : cmpD .lt (.int i) (.int j) = .ok (.bool (decide (i < j))) := rfl
theorem c_lei (i j : Int) : cmpD .le (.int i) (.int j) = .ok (.bool (decide (i ≤ j))) := rfl
theorem c_gti (i j : Int) : cmpD .gt (.int i) (.int j) = .ok (.bool (decide (j < i))) := rfl
theorem c_gei (i j : Int) : cmpD .ge (.int i) (.int j) = .ok (.bool (decide (j ≤ i))) := rfl
/-! sums of tuples, of lists -/
theorem add_tD {a b : List Int} (h : a.length + b.length ≤ line) : binD .add (tD a) (tD b) = .ok (tD (a ++ b)) := by
  show mkTup (a.map PyData.int ++ b.map PyData.int) = _
  rw [mkTup_ok (by rw [List.length_append, List.length_map, List.length_map]; exact h), ← List.map_append]
  rfl
theorem add_fD {a b : List (List Int)} (h : a.length + b.length ≤ line) : binD .add (fD a) (fD b) = .ok (fD (a ++ b)) := by
  show mkTup (a.map tD ++ b.map tD) = _
  rw [mkTup_ok (by rw [List.length_append, List.length_map, List.length_map]; exact h), ← List.map_append]
  rfl
theorem add_lD {a b : List (List Int)} (h : a.length + b.length ≤ line) : binD .add (lD a) (lD b) = .ok (lD (a ++ b)) := by
  show mkLst (a.map tD ++ b.map tD) = _
  rw [mkLst_ok (by rw [List.length_append, List.length_map, List.length_map]; exact h), ← List.map_append]
  rfl
theorem items_t (xs : List D) : items (.tuple xs) = some xs := rfl
theorem items_l (xs : List D) : items (.list xs) = some xs := rfl
theorem items_lD (F : List (List Int)) : items (lD F) = some (F.map tD) := rfl
theorem items_fD (F : List (List Int)) : items (fD F) = some (F.map tD) := rfl
theorem items_tD (F : List Int) : items (tD F) = some (F.map .int) := rfl
theorem mkTup0 : mkTup [] = .ok (tD []) := mkTup_ok (Nat.zero_le _)
theorem mkTup1i (i : Int) : mkTup [.int i] = .ok (tD [i]) := mkTup_ok (by show 1 ≤ line; decide)
theorem mkTup1t (a : List Int) : mkTup [tD a] = .ok (fD [a]) := mkTup_ok (by show 1 ≤ line; decide)
theorem mkTup2t (a b : List Int) : mkTup [tD a, tD b] = .ok (fD [a, b]) := mkTup_ok (by show 2 ≤ line; decide)
theorem mkLst0 : mkLst [] = .ok (lD []) := mkLst_ok (Nat.zero_le _)
theorem mkLst1t (a : List Int) : mkLst [tD a] = .ok (lD [a]) := mkLst_ok (by show 1 ≤ line; decide)
theorem mkLst_lD {F : List (List Int)} (h : F.length ≤ line) : mkLst (F.map tD) = .ok (lD F) := mkLst_ok (by rw [List.length_map]; exact h)
theorem mkLst_map {α : Type} {l : List α} {g : α → List Int} (h : l.length ≤ line) : mkLst (l.map fun x => tD (g x)) = .ok (lD (l.map g)) := by
  rw [mkLst_ok (by rw [List.length_map]; exact h)]
  unfold lD
  rw [List.map_map]
  rfl
theorem inR_ok {i : Int} (h : -1000000000 ≤ i ∧ i ≤ 1000000000) : inR i = true := Nat.ble_eq_true_of_le (by omega)
theorem small_ok {i : Int} (h : -1000000000000 ≤ i ∧ i ≤ 1000000000000) : small i = true := Nat.ble_eq_true_of_le (by omega)
/-! sorting -/
theorem sort_tD (F : List (List Int)) : sortL (F.map tD) = .ok ((sortI F).map tD) := by
  have h : okSort (F.map tD) = true := by
    unfold okSort
    rw [List.all_eq_true]
    intro d hd
    obtain ⟨a, _, rfl⟩ := List.mem_map.mp hd
    rw [Bool.and_eq_true, Bool.and_eq_true]
    refine ⟨⟨rfl, decide_eq_true (Nat.le_trans (depth_tD a) (by omega))⟩, ?_⟩
    rw [List.all_eq_true]
    intro e he
    obtain ⟨b, _, rfl⟩ := List.mem_map.mp he
    exact alike_tD a b
  unfold sortL
  rw [if_pos h]
  unfold sortI
  rw [List.map_mergeSort (r := leI) (s := leD) (f := tD) fun a _ b _ => by unfold leI leD; rw [ltI_data]]
theorem ints_map : ∀ (k : List Int), intsD (k.map .int) = some k
  | [] => rfl
  | n :: k => by rw [List.map_cons, intsD, ints_map k]; rfl
theorem tups_map : ∀ (F : List (List Int)), tupsOf (F.map tD) = some F
  | [] => rfl
  | n :: k => by
    rw [List.map_cons]
    show ((intsD (n.map .int)).bind fun k' => (tupsOf (k.map tD)).map (k' :: ·)) = _
    rw [ints_map, tups_map k]
    rfl
theorem keys_fD (F : List (List Int)) : keysOf (fD F) = some F := tups_map F
theorem keys_lD (F : List (List Int)) : keysOf (lD F) = some F := tups_map F
theorem dd_len' : ∀ (l : List (List Int)), (dd l).length ≤ l.length
  | [] => Nat.le_refl _
  | y :: l => by
    have := dd_len' l
    unfold dd
    split
    · rw [List.length_cons]; omega
    · rw [List.length_cons, List.length_cons]; omega
theorem sset_fD' {F : List (List Int)} (h : (dd F).length < 63) : bltD .sset [fD F] = .ok (lD (sortI (dd F))) := by
  show (match keysOf (fD F) with
    | some ks => if (dd ks).length < 63 then M.ok (PyData.list ((sortI (dd ks)).map tD)) else .bad
    | none => match (items (fD F)).bind intsD with
      | some ns => if ns.length < 63 then .ok (.list ((sdd ns).map .int)) else .bad
      | none => .bad) = _
  rw [keys_fD]
  show (if (dd F).length < 63 then M.ok (PyData.list ((sortI (dd F)).map tD)) else .bad) = _
  rw [if_pos h]
  rfl
theorem sset_lD' {F : List (List Int)} (h : (dd F).length < 63) : bltD .sset [lD F] = .ok (lD (sortI (dd F))) := sset_fD' h
theorem sset_fD {F : List (List Int)} (h : F.length < 63) : bltD .sset [fD F] = .ok (lD (sortI (dd F))) := sset_fD' (Nat.lt_of_le_of_lt (dd_len' F) h)
theorem sset_lD {F : List (List Int)} (h : F.length < 63) : bltD .sset [lD F] = .ok (lD (sortI (dd F))) := sset_lD' (Nat.lt_of_le_of_lt (dd_len' F) h)
theorem tups_int (n : Int) (ns : List Int) : tupsOf ((n :: ns).map .int) = none := rfl
theorem sset_zD {ns : List Int} (h : ns.length < 63) : bltD .sset [.list (ns.map .int)] = .ok (.list ((sdd ns).map .int)) := by
  cases ns with
  | nil =>
    show (if (dd []).length < 63 then M.ok (PyData.list ((sortI (dd [])).map tD)) else M.bad) = _
    rw [if_pos (by decide)]
    have e : sortI (dd []) = [] := List.length_eq_zero_iff.mp (by unfold sortI; rw [List.length_mergeSort]; rfl)
    rw [e]
    rfl
  | cons n r =>
    have e : (items (PyData.list ((n :: r).map PyData.int))).bind intsD = some (n :: r) := ints_map (n :: r)
    show (match (items (PyData.list ((n :: r).map PyData.int))).bind intsD with
      | some ns => if ns.length < 63 then M.ok (PyData.list ((sdd ns).map PyData.int)) else M.bad
      | none => M.bad) = _
    rw [e]
    show (if (n :: r).length < 63 then M.ok (PyData.list ((sdd (n :: r)).map PyData.int)) else M.bad) = _
    rw [if_pos h]
theorem tuple_lD (F : List (List Int)) : bltD .tuple [lD F] = .ok (fD F) := rfl
theorem sorted_lD (F : List (List Int)) : bltD .sorted [lD F] = .ok (lD (sortI F)) := by
  show ((sortL (F.map tD)).bind fun ys => M.ok (PyData.list ys)) = _
  rw [sort_tD]
  rfl
theorem len_lD (F : List (List Int)) : bltD .len [lD F] = .ok (.int F.length) := by
  show M.ok (PyData.int ((F.map tD).length : Nat)) = _
  rw [List.length_map]
theorem len_fD (F : List (List Int)) : bltD .len [fD F] = .ok (.int F.length) := by
  show M.ok (PyData.int ((F.map tD).length : Nat)) = _
  rw [List.length_map]
theorem len_tD (F : List Int) : bltD .len [tD F] = .ok (.int F.length) := by
  show M.ok (PyData.int ((F.map PyData.int).length : Nat)) = _
  rw [List.length_map]
theorem rng_map : ∀ (n : Nat) (lo : Int), rng lo n = ((List.range n).map fun (i : Nat) => PyData.int (lo + (i : Int)))
  | 0, _ => rfl
  | n + 1, lo => by
    rw [rng, rng_map n (lo + 1), List.range_succ_eq_map, List.map_cons, List.map_map]
    have e0 : lo + ((0 : Nat) : Int) = lo := by simp
    rw [e0]
    refine congrArg (PyData.int lo :: ·) (List.map_congr_left fun i _ => ?_)
    show PyData.int (lo + 1 + (i : Int)) = PyData.int (lo + ((i + 1 : Nat) : Int))
    congr 1
    push_cast
    omega
theorem enum_map : ∀ (F : List (List Int)) (k : Nat), enumD k (F.map tD) = (F.zipIdx k).map fun p => .tuple [.int (p.2 : Nat), tD p.1]
  | [], _ => rfl
  | x :: F, k => by
    rw [List.map_cons, enumD, List.zipIdx_cons, List.map_cons]
    have e : ((k : Int) + 1) = ((k + 1 : Nat) : Int) := by push_cast; rfl
    rw [e, enum_map F (k + 1)]
end DL

namespace LW
open PySem PySem.Spec PyProof.Rows L2 DL
def top (i : Nat) : Stmt := PySem.Challenge.pw_meetsets_k66_sums_to_none.main.body.getD i (.Pass ⟨0, 0, 0, 0⟩)
def gis (x : Str) : Option Gc := if x = ("MOST_POINTS" : Str) then some (.int (8)) else if x = ("MOST_GONE_THROUGH" : Str) then some (.int (12)) else none
def cls (x : Str) : Option (List Str) := if x = ("NoGround" : Str) then some [] else if x = ("NoFamily" : Str) then some [("at" : Str)] else if x = ("TooGreat" : Str) then some [("many" : Str), ("most" : Str)] else none
def kdt : KTb := [(("NoGround" : Str), ((0 : Int), ([] : List Str))), (("NoFamily" : Str), ((1 : Int), [("at" : Str)])), (("TooGreat" : Str), ((9 : Int), [("many" : Str), ("most" : Str)]))]
def kdi : KdI := ⟨("_law_kinds" : Str), ("_law_e" : Str), ("MeetError" : Str), kdt⟩
def f_is_whole : Fn := ⟨[.sh], 1, false, (.cons (.ret (.and (.isi (.var 0) .int) (.not (.isi (.var 0) .bool)))) .nil)⟩
def m_is_whole : List D → M D := run G0 f_is_whole
def G_is_whole : Gm := ext G0 ("is_whole" : Str) m_is_whole
def S_is_whole : Str → Option (List Pm) := addS sig0 ("is_whole" : Str) [.sh]
theorem t_is_whole : trB 60 (ctOf [("thing" : Str)] (defScope (top 18)) [] sig0 gis cls (some kdi) true) (defBody (top 18)) = some f_is_whole.body := by kernel_rfl
theorem sc_is_whole : FnScope [("thing" : Str)] [("thing" : Str)] (defScope (top 18)) := ⟨rfl, rfl, rfl, by decide +kernel, rfl, by decide +kernel, by decide +kernel⟩
theorem b_is_whole : BindsAs ("is_whole" : Str) (top 18) [("thing" : Str)] := fun kV doc pm an cdv ct us hl => match us, hl with | [_], _ => rfl
def f_is_from : Fn := ⟨[.sh, .sh, .sh], 3, false, (.cons (.ret (.and (.call ("is_whole" : Str) (.cons (.var 0) .nil)) (.chain .le .le (.var 1) (.var 0) (.var 2)))) .nil)⟩
def m_is_from : List D → M D := run G_is_whole f_is_from
def G_is_from : Gm := ext G_is_whole ("is_from" : Str) m_is_from
def S_is_from : Str → Option (List Pm) := addS S_is_whole ("is_from" : Str) [.sh, .sh, .sh]
theorem g_is_from_is_whole : G_is_whole ("is_whole" : Str) = m_is_whole := by kernel_rfl
theorem t_is_from : trB 60 (ctOf [("thing" : Str), ("least" : Str), ("most" : Str)] (defScope (top 19)) [] S_is_whole gis cls (some kdi) true) (defBody (top 19)) = some f_is_from.body := by kernel_rfl
theorem sc_is_from : FnScope [("thing" : Str), ("least" : Str), ("most" : Str)] [("thing" : Str), ("least" : Str), ("most" : Str)] (defScope (top 19)) := ⟨rfl, rfl, rfl, by decide +kernel, rfl, by decide +kernel, by decide +kernel⟩
theorem b_is_from : BindsAs ("is_from" : Str) (top 19) [("thing" : Str), ("least" : Str), ("most" : Str)] := fun kV doc pm an cdv ct us hl => match us, hl with | [_, _, _], _ => rfl
def f_ground_good : Fn := ⟨[.sh], 1, false, (.cons (.ret (.call ("is_from" : Str) (.cons (.var 0) (.cons (.int 1) (.cons (.gint ("MOST_POINTS" : Str) 8) .nil))))) .nil)⟩
def m_ground_good : List D → M D := run G_is_from f_ground_good
def G_ground_good : Gm := ext G_is_from ("ground_good" : Str) m_ground_good
def S_ground_good : Str → Option (List Pm) := addS S_is_from ("ground_good" : Str) [.sh]
theorem g_ground_good_is_from : G_is_from ("is_from" : Str) = m_is_from := by kernel_rfl
theorem t_ground_good : trB 60 (ctOf [("thing" : Str)] (defScope (top 20)) [] S_is_from gis cls (some kdi) true) (defBody (top 20)) = some f_ground_good.body := by kernel_rfl
theorem sc_ground_good : FnScope [("thing" : Str)] [("thing" : Str)] (defScope (top 20)) := ⟨rfl, rfl, rfl, by decide +kernel, rfl, by decide +kernel, by decide +kernel⟩
theorem b_ground_good : BindsAs ("ground_good" : Str) (top 20) [("thing" : Str)] := fun kV doc pm an cdv ct us hl => match us, hl with | [_], _ => rfl
def f_set_good : Fn := ⟨[.sh, .sh], 4, false, (.cons (.ifs (.not (.isi (.var 1) .tuple)) (.cons (.ret (.bl false)) .nil) .nil) (.cons (.asg 2 false (.neg (.int 1))) (.cons (.for_ (.nm 3) (.seq (.var 1)) (.cons (.ifs (.not (.call ("is_from" : Str) (.cons (.var 3) (.cons (.bin .add (.var 2) (.int 1)) (.cons (.bin .sub (.var 0) (.int 1)) .nil))))) (.cons (.ret (.bl false)) .nil) .nil) (.cons (.asg 2 false (.var 3)) .nil))) (.cons (.ret (.bl true)) .nil))))⟩
def m_set_good : List D → M D := run G_ground_good f_set_good
def G_set_good : Gm := ext G_ground_good ("set_good" : Str) m_set_good
def S_set_good : Str → Option (List Pm) := addS S_ground_good ("set_good" : Str) [.sh, .sh]
theorem g_set_good_is_from : G_ground_good ("is_from" : Str) = m_is_from := by kernel_rfl
theorem t_set_good : trB 60 (ctOf [("n" : Str), ("thing" : Str), ("last" : Str), ("point" : Str)] (defScope (top 21)) [] S_ground_good gis cls (some kdi) true) (defBody (top 21)) = some f_set_good.body := by kernel_rfl
theorem sc_set_good : FnScope [("n" : Str), ("thing" : Str), ("last" : Str), ("point" : Str)] [("n" : Str), ("thing" : Str)] (defScope (top 21)) := ⟨rfl, rfl, rfl, by decide +kernel, rfl, by decide +kernel, by decide +kernel⟩
theorem b_set_good : BindsAs ("set_good" : Str) (top 21) [("n" : Str), ("thing" : Str)] := fun kV doc pm an cdv ct us hl => match us, hl with | [_, _], _ => rfl
def f_first_flaw : Fn := ⟨[.sh, .sh], 4, false, (.cons (.ifs (.not (.isi (.var 1) .tuple)) (.cons (.ret (.neg (.int 1))) .nil) .nil) (.cons (.for_ (.tup [2, 3]) (.enum (.var 1)) (.cons (.ifs (.or (.not (.call ("set_good" : Str) (.cons (.var 0) (.cons (.var 3) .nil)))) (.and (.cmp .gt (.var 2) (.int 0)) (.cmp .le (.var 3) (.idx (.var 1) (.bin .sub (.var 2) (.int 1)))))) (.cons (.ret (.var 2)) .nil) .nil) .nil)) (.cons (.ret .none) .nil)))⟩
def m_first_flaw : List D → M D := run G_set_good f_first_flaw
def G_first_flaw : Gm := ext G_set_good ("first_flaw" : Str) m_first_flaw
def S_first_flaw : Str → Option (List Pm) := addS S_set_good ("first_flaw" : Str) [.sh, .sh]
theorem g_first_flaw_set_good : G_set_good ("set_good" : Str) = m_set_good := by kernel_rfl
theorem t_first_flaw : trB 60 (ctOf [("n" : Str), ("thing" : Str), ("at" : Str), ("one" : Str)] (defScope (top 22)) [] S_set_good gis cls (some kdi) true) (defBody (top 22)) = some f_first_flaw.body := by kernel_rfl
theorem sc_first_flaw : FnScope [("n" : Str), ("thing" : Str), ("at" : Str), ("one" : Str)] [("n" : Str), ("thing" : Str)] (defScope (top 22)) := ⟨rfl, rfl, rfl, by decide +kernel, rfl, by decide +kernel, by decide +kernel⟩
theorem b_first_flaw : BindsAs ("first_flaw" : Str) (top 22) [("n" : Str), ("thing" : Str)] := fun kV doc pm an cdv ct us hl => match us, hl with | [_, _], _ => rfl
def f_need_ground : Fn := ⟨[.sh], 1, false, (.cons (.ifs (.not (.call ("ground_good" : Str) (.cons (.var 0) .nil))) (.cons (.raise ("NoGround" : Str) [] .nil) .nil) .nil) .nil)⟩
def m_need_ground : List D → M D := run G_first_flaw f_need_ground
def G_need_ground : Gm := ext G_first_flaw ("need_ground" : Str) m_need_ground
def S_need_ground : Str → Option (List Pm) := addS S_first_flaw ("need_ground" : Str) [.sh]
theorem g_need_ground_ground_good : G_first_flaw ("ground_good" : Str) = m_ground_good := by kernel_rfl
theorem t_need_ground : trB 60 (ctOf [("n" : Str)] (defScope (top 23)) [] S_first_flaw gis cls (some kdi) true) (defBody (top 23)) = some f_need_ground.body := by kernel_rfl
theorem sc_need_ground : FnScope [("n" : Str)] [("n" : Str)] (defScope (top 23)) := ⟨rfl, rfl, rfl, by decide +kernel, rfl, by decide +kernel, by decide +kernel⟩
theorem b_need_ground : BindsAs ("need_ground" : Str) (top 23) [("n" : Str)] := fun kV doc pm an cdv ct us hl => match us, hl with | [_], _ => rfl
def f_need_family : Fn := ⟨[.sh, .sh], 3, false, (.cons (.asg 2 false (.call ("first_flaw" : Str) (.cons (.var 0) (.cons (.var 1) .nil)))) (.cons (.ifs (.cmp .notN (.var 2) .none) (.cons (.raise ("NoFamily" : Str) [("at" : Str)] (.cons (.var 2) .nil)) .nil) .nil) .nil))⟩
def m_need_family : List D → M D := run G_need_ground f_need_family
def G_need_family : Gm := ext G_need_ground ("need_family" : Str) m_need_family
def S_need_family : Str → Option (List Pm) := addS S_need_ground ("need_family" : Str) [.sh, .sh]
theorem g_need_family_first_flaw : G_need_ground ("first_flaw" : Str) = m_first_flaw := by kernel_rfl
theorem t_need_family : trB 60 (ctOf [("n" : Str), ("family" : Str), ("at" : Str)] (defScope (top 24)) [] S_need_ground gis cls (some kdi) true) (defBody (top 24)) = some f_need_family.body := by kernel_rfl
theorem sc_need_family : FnScope [("n" : Str), ("family" : Str), ("at" : Str)] [("n" : Str), ("family" : Str)] (defScope (top 24)) := ⟨rfl, rfl, rfl, by decide +kernel, rfl, by decide +kernel, by decide +kernel⟩
theorem b_need_family : BindsAs ("need_family" : Str) (top 24) [("n" : Str), ("family" : Str)] := fun kV doc pm an cdv ct us hl => match us, hl with | [_, _], _ => rfl
def f_need_few : Fn := ⟨[.sh, .sh], 2, false, (.cons (.ifs (.cmp .gt (.var 0) (.var 1)) (.cons (.raise ("TooGreat" : Str) [("many" : Str), ("most" : Str)] (.cons (.var 0) (.cons (.var 1) .nil))) .nil) .nil) .nil)⟩
def m_need_few : List D → M D := run G_need_family f_need_few
def G_need_few : Gm := ext G_need_family ("need_few" : Str) m_need_few
def S_need_few : Str → Option (List Pm) := addS S_need_family ("need_few" : Str) [.sh, .sh]
theorem t_need_few : trB 60 (ctOf [("many" : Str), ("most" : Str)] (defScope (top 25)) [] S_need_family gis cls (some kdi) true) (defBody (top 25)) = some f_need_few.body := by kernel_rfl
theorem sc_need_few : FnScope [("many" : Str), ("most" : Str)] [("many" : Str), ("most" : Str)] (defScope (top 25)) := ⟨rfl, rfl, rfl, by decide +kernel, rfl, by decide +kernel, by decide +kernel⟩
theorem b_need_few : BindsAs ("need_few" : Str) (top 25) [("many" : Str), ("most" : Str)] := fun kV doc pm an cdv ct us hl => match us, hl with | [_, _], _ => rfl
def f_unlike : Fn := ⟨[.sh, .sh], 4, false, (.cons (.asg 2 false (.bin .add (.lc (.var 3) (.nm 3) (.seq (.var 0)) (.yes (.cmp .nmem (.var 3) (.var 1))) [(("thing" : Str), 3)]) (.lc (.var 3) (.nm 3) (.seq (.var 1)) (.yes (.cmp .nmem (.var 3) (.var 0))) [(("thing" : Str), 3)]))) (.cons (.ret (.blt .tuple (.cons (.blt .sorted (.cons (.var 2) .nil)) .nil))) .nil))⟩
def m_unlike : List D → M D := run G_need_few f_unlike
def G_unlike : Gm := ext G_need_few ("unlike" : Str) m_unlike
def S_unlike : Str → Option (List Pm) := addS S_need_few ("unlike" : Str) [.sh, .sh]
theorem t_unlike : trB 60 (ctOf [("one" : Str), ("other" : Str), ("found" : Str), ("thing" : Str)] (defScope (top 28)) [] S_need_few gis cls (some kdi) true) (defBody (top 28)) = some f_unlike.body := by kernel_rfl
theorem sc_unlike : FnScope [("one" : Str), ("other" : Str), ("found" : Str), ("thing" : Str)] [("one" : Str), ("other" : Str)] (defScope (top 28)) := ⟨rfl, rfl, rfl, by decide +kernel, rfl, by decide +kernel, by decide +kernel⟩
theorem b_unlike : BindsAs ("unlike" : Str) (top 28) [("one" : Str), ("other" : Str)] := fun kV doc pm an cdv ct us hl => match us, hl with | [_, _], _ => rfl
def f_parted_ways : Fn := ⟨[.sh], 10, false, (.cons (.dnew 1) (.cons (.asg 2 true (.lst .nil)) (.cons (.asg 3 true (.lst .nil)) (.cons (.for_ (.tup [4, 5]) (.enum (.var 0)) (.cons (.asg 6 false (.var 5)) (.cons (.asg 7 false (.tup .nil)) (.cons (.whl (.and (.cmp .ne (.var 6) (.tup .nil)) (.din (.idx (.var 6) (.neg (.int 1))) 1)) (.cons (.unp [8, 9] (.dgt 1 (.idx (.var 6) (.neg (.int 1))))) (.cons (.asg 6 false (.call ("unlike" : Str) (.cons (.var 6) (.cons (.var 8) .nil)))) (.cons (.asg 7 false (.call ("unlike" : Str) (.cons (.var 7) (.cons (.var 9) .nil)))) .nil)))) (.cons (.ifs (.cmp .ne (.var 6) (.tup .nil)) (.cons (.app 2 (.var 4)) (.cons (.dput 1 (.idx (.var 6) (.neg (.int 1))) (.tup (.cons (.var 6) (.cons (.call ("unlike" : Str) (.cons (.var 7) (.cons (.tup (.cons (.var 4) .nil)) .nil))) .nil)))) (.cons (.asg 7 false (.tup (.cons (.var 4) .nil))) .nil))) .nil) (.cons (.app 3 (.blt .list (.cons (.var 7) .nil))) .nil)))))) (.cons (.frz 2) (.cons (.frz 3) (.cons (.ret (.tup (.cons (.var 2) (.cons (.var 3) .nil)))) .nil)))))))⟩
def m_parted_ways : List D → M D := run G_unlike f_parted_ways
def G_parted_ways : Gm := ext G_unlike ("parted_ways" : Str) m_parted_ways
def S_parted_ways : Str → Option (List Pm) := addS S_unlike ("parted_ways" : Str) [.sh]
theorem g_parted_ways_unlike : G_unlike ("unlike" : Str) = m_unlike := by kernel_rfl
theorem t_parted_ways : trB 60 (ctOf [("family" : Str), ("heads" : Str), ("own_ones" : Str), ("told" : Str), ("k" : Str), ("one" : Str), ("rest" : Str), ("places" : Str), ("head" : Str), ("mine" : Str)] (defScope (top 29)) [2, 3, 1001] S_unlike gis cls (some kdi) true) (defBody (top 29)) = some f_parted_ways.body := by kernel_rfl
theorem sc_parted_ways : FnScope [("family" : Str), ("heads" : Str), ("own_ones" : Str), ("told" : Str), ("k" : Str), ("one" : Str), ("rest" : Str), ("places" : Str), ("head" : Str), ("mine" : Str)] [("family" : Str)] (defScope (top 29)) := ⟨rfl, rfl, rfl, by decide +kernel, rfl, by decide +kernel, by decide +kernel⟩
theorem b_parted_ways : BindsAs ("parted_ways" : Str) (top 29) [("family" : Str)] := fun kV doc pm an cdv ct us hl => match us, hl with | [_], _ => rfl
def f_own : Fn := ⟨[.sh, .sh], 2, false, (.cons (.expr (.call ("need_ground" : Str) (.cons (.var 0) .nil))) (.cons (.expr (.call ("need_family" : Str) (.cons (.var 0) (.cons (.var 1) .nil)))) (.cons (.ret (.idx (.call ("parted_ways" : Str) (.cons (.var 1) .nil)) (.int 0))) .nil)))⟩
def m_own : List D → M D := run G_parted_ways f_own
def G_own : Gm := ext G_parted_ways ("own" : Str) m_own
def S_own : Str → Option (List Pm) := addS S_parted_ways ("own" : Str) [.sh, .sh]
theorem g_own_need_family : G_parted_ways ("need_family" : Str) = m_need_family := by kernel_rfl
theorem g_own_need_ground : G_parted_ways ("need_ground" : Str) = m_need_ground := by kernel_rfl
theorem g_own_parted_ways : G_parted_ways ("parted_ways" : Str) = m_parted_ways := by kernel_rfl
theorem t_own : trB 60 (ctOf [("n" : Str), ("family" : Str)] (defScope (top 30)) [] S_parted_ways gis cls (some kdi) true) (defBody (top 30)) = some f_own.body := by kernel_rfl
theorem sc_own : FnScope [("n" : Str), ("family" : Str)] [("n" : Str), ("family" : Str)] (defScope (top 30)) := ⟨rfl, rfl, rfl, by decide +kernel, rfl, by decide +kernel, by decide +kernel⟩
theorem b_own : BindsAs ("own" : Str) (top 30) [("n" : Str), ("family" : Str)] := fun kV doc pm an cdv ct us hl => match us, hl with | [_, _], _ => rfl
def f_rank : Fn := ⟨[.sh, .sh], 2, false, (.cons (.ret (.blt .len (.cons (.call ("own" : Str) (.cons (.var 0) (.cons (.var 1) .nil))) .nil))) .nil)⟩
def m_rank : List D → M D := run G_own f_rank
def G_rank : Gm := ext G_own ("rank" : Str) m_rank
def S_rank : Str → Option (List Pm) := addS S_own ("rank" : Str) [.sh, .sh]
theorem g_rank_own : G_own ("own" : Str) = m_own := by kernel_rfl
theorem t_rank : trB 60 (ctOf [("n" : Str), ("family" : Str)] (defScope (top 31)) [] S_own gis cls (some kdi) true) (defBody (top 31)) = some f_rank.body := by kernel_rfl
theorem sc_rank : FnScope [("n" : Str), ("family" : Str)] [("n" : Str), ("family" : Str)] (defScope (top 31)) := ⟨rfl, rfl, rfl, by decide +kernel, rfl, by decide +kernel, by decide +kernel⟩
theorem b_rank : BindsAs ("rank" : Str) (top 31) [("n" : Str), ("family" : Str)] := fun kV doc pm an cdv ct us hl => match us, hl with | [_, _], _ => rfl
def f_none_sum : Fn := ⟨[.sh, .sh], 7, false, (.cons (.expr (.call ("need_ground" : Str) (.cons (.var 0) .nil))) (.cons (.expr (.call ("need_family" : Str) (.cons (.var 0) (.cons (.var 1) .nil)))) (.cons (.expr (.call ("need_few" : Str) (.cons (.blt .len (.cons (.var 1) .nil)) (.cons (.gint ("MOST_GONE_THROUGH" : Str) 12) .nil)))) (.cons (.asg 2 false (.lst (.cons (.tup (.cons (.lst .nil) (.cons (.tup .nil) .nil))) .nil))) (.cons (.whl (.cmp .ne (.var 2) (.lst .nil)) (.cons (.asg 3 true (.lst .nil)) (.cons (.for_ (.tup [4, 5]) (.seq (.var 2)) (.cons (.for_ (.nm 6) (.rng2 (.bin .add (.blt .maxd (.cons (.var 4) (.cons (.neg (.int 1)) .nil))) (.int 1)) (.blt .len (.cons (.var 1) .nil))) (.cons (.app 3 (.tup (.cons (.bin .add (.var 4) (.lst (.cons (.var 6) .nil))) (.cons (.call ("unlike" : Str) (.cons (.var 5) (.cons (.idx (.var 1) (.var 6)) .nil))) .nil)))) .nil)) .nil)) (.cons (.frz 3) (.cons (.for_ (.tup [4, 5]) (.seq (.var 3)) (.cons (.ifs (.cmp .eq (.var 5) (.tup .nil)) (.cons (.ret (.var 4)) .nil) .nil) .nil)) (.cons (.frz 3) (.cons (.asg 2 false (.var 3)) .nil))))))) (.cons (.ret .none) .nil))))))⟩
def m_none_sum : List D → M D := run G_rank f_none_sum
def G_none_sum : Gm := ext G_rank ("none_sum" : Str) m_none_sum
def S_none_sum : Str → Option (List Pm) := addS S_rank ("none_sum" : Str) [.sh, .sh]
theorem g_none_sum_need_family : G_rank ("need_family" : Str) = m_need_family := by kernel_rfl
theorem g_none_sum_need_few : G_rank ("need_few" : Str) = m_need_few := by kernel_rfl
theorem g_none_sum_need_ground : G_rank ("need_ground" : Str) = m_need_ground := by kernel_rfl
theorem g_none_sum_unlike : G_rank ("unlike" : Str) = m_unlike := by kernel_rfl
theorem t_none_sum : trB 60 (ctOf [("n" : Str), ("family" : Str), ("here" : Str), ("longer" : Str), ("places" : Str), ("total" : Str), ("k" : Str)] (defScope (top 32)) [3] S_rank gis cls (some kdi) true) (defBody (top 32)) = some f_none_sum.body := by kernel_rfl
theorem sc_none_sum : FnScope [("n" : Str), ("family" : Str), ("here" : Str), ("longer" : Str), ("places" : Str), ("total" : Str), ("k" : Str)] [("n" : Str), ("family" : Str)] (defScope (top 32)) := ⟨rfl, rfl, rfl, by decide +kernel, rfl, by decide +kernel, by decide +kernel⟩
theorem b_none_sum : BindsAs ("none_sum" : Str) (top 32) [("n" : Str), ("family" : Str)] := fun kV doc pm an cdv ct us hl => match us, hl with | [_, _], _ => rfl
def f__law_cell_at : Fn := ⟨[.sh, .sh], 2, false, (.cons (.ifs (.cmp .lt (.var 1) (.blt .len (.cons (.var 0) .nil))) (.cons (.ret (.idx (.var 0) (.var 1))) .nil) .nil) (.cons (.ret (.int 0)) .nil))⟩
def m__law_cell_at : List D → M D := run G_none_sum f__law_cell_at
def G__law_cell_at : Gm := ext G_none_sum ("_law_cell_at" : Str) m__law_cell_at
def S__law_cell_at : Str → Option (List Pm) := addS S_none_sum ("_law_cell_at" : Str) [.sh, .sh]
theorem t__law_cell_at : trB 60 (ctOf [("_law_script" : Str), ("_law_k" : Str)] (defScope (top 34)) [] S_none_sum gis cls (some kdi) true) (defBody (top 34)) = some f__law_cell_at.body := by kernel_rfl
theorem sc__law_cell_at : FnScope [("_law_script" : Str), ("_law_k" : Str)] [("_law_script" : Str), ("_law_k" : Str)] (defScope (top 34)) := ⟨rfl, rfl, rfl, by decide +kernel, rfl, by decide +kernel, by decide +kernel⟩
theorem b__law_cell_at : BindsAs ("_law_cell_at" : Str) (top 34) [("_law_script" : Str), ("_law_k" : Str)] := fun kV doc pm an cdv ct us hl => match us, hl with | [_, _], _ => rfl
def f__law_same : Fn := ⟨[.sh, .sh], 4, false, (.cons (.ifs (.cmp .isN (.var 1) .none) (.cons (.ret (.cmp .isN (.var 0) .none)) .nil) .nil) (.cons (.ifs (.isi (.var 1) .bool) (.cons (.ret (.and (.isi (.var 0) .bool) (.cmp .eq (.var 0) (.var 1)))) .nil) .nil) (.cons (.ifs (.isi (.var 1) .int) (.cons (.ret (.and (.isi (.var 0) .int) (.and (.not (.isi (.var 0) .bool)) (.cmp .eq (.var 0) (.var 1))))) .nil) .nil) (.cons (.ifs (.isi (.var 1) .str) (.cons (.ret (.and (.isi (.var 0) .str) (.cmp .eq (.var 0) (.var 1)))) .nil) .nil) (.cons (.ifs (.or (.cmp .ne (.isi (.var 1) .list) (.isi (.var 0) .list)) (.cmp .ne (.isi (.var 1) .tuple) (.isi (.var 0) .tuple))) (.cons (.ret (.bl false)) .nil) .nil) (.cons (.ifs (.cmp .ne (.blt .len (.cons (.var 0) .nil)) (.blt .len (.cons (.var 1) .nil))) (.cons (.ret (.bl false)) .nil) .nil) (.cons (.for_ (.tup [2, 3]) (.zip (.var 0) (.var 1)) (.cons (.ifs (.not (.call ("_law_same" : Str) (.cons (.var 2) (.cons (.var 3) .nil)))) (.cons (.ret (.bl false)) .nil) .nil) .nil)) (.cons (.ret (.bl true)) .nil))))))))⟩
def m__law_same : List D → M D := recM G__law_cell_at ("_law_same" : Str) f__law_same 10
def G__law_same : Gm := ext G__law_cell_at ("_law_same" : Str) m__law_same
def S__law_same : Str → Option (List Pm) := addS S__law_cell_at ("_law_same" : Str) [.sh, .sh]
theorem t__law_same : trB 60 (ctOf [("_law_found" : Str), ("_law_due" : Str), ("_law_one" : Str), ("_law_other" : Str)] (defScope (top 35)) [] (addS S__law_cell_at ("_law_same" : Str) [.sh, .sh]) gis cls (some kdi) true) (defBody (top 35)) = some f__law_same.body := by kernel_rfl
theorem sc__law_same : FnScope [("_law_found" : Str), ("_law_due" : Str), ("_law_one" : Str), ("_law_other" : Str)] [("_law_found" : Str), ("_law_due" : Str)] (defScope (top 35)) := ⟨rfl, rfl, rfl, by decide +kernel, rfl, by decide +kernel, by decide +kernel⟩
theorem b__law_same : BindsAs ("_law_same" : Str) (top 35) [("_law_found" : Str), ("_law_due" : Str)] := fun kV doc pm an cdv ct us hl => match us, hl with | [_, _], _ => rfl
def f__law_stir : Fn := ⟨[.sh, .sh], 3, false, (.cons (.asg 2 false (.bin .md (.bin .mul (.bin .add (.bin .add (.bin .md (.var 0) (.int 2147483647)) (.bin .mul (.int 977) (.var 1))) (.int 1)) (.int 48271)) (.int 2147483647))) (.cons (.asg 2 false (.bin .md (.bin .mul (.var 2) (.var 2)) (.int 2147483629))) (.cons (.asg 2 false (.bin .md (.bin .mul (.bin .add (.var 2) (.bin .mul (.int 40692) (.bin .add (.var 1) (.int 3)))) (.int 69621)) (.int 2147483647))) (.cons (.ret (.bin .fdiv (.var 2) (.int 8))) .nil))))⟩
def m__law_stir : List D → M D := run G__law_same f__law_stir
def G__law_stir : Gm := ext G__law_same ("_law_stir" : Str) m__law_stir
def S__law_stir : Str → Option (List Pm) := addS S__law_same ("_law_stir" : Str) [.sh, .sh]
theorem t__law_stir : trB 60 (ctOf [("_law_cell" : Str), ("_law_k" : Str), ("_law_number" : Str)] (defScope (top 36)) [] S__law_same gis cls (some kdi) true) (defBody (top 36)) = some f__law_stir.body := by kernel_rfl
theorem sc__law_stir : FnScope [("_law_cell" : Str), ("_law_k" : Str), ("_law_number" : Str)] [("_law_cell" : Str), ("_law_k" : Str)] (defScope (top 36)) := ⟨rfl, rfl, rfl, by decide +kernel, rfl, by decide +kernel, by decide +kernel⟩
theorem b__law_stir : BindsAs ("_law_stir" : Str) (top 36) [("_law_cell" : Str), ("_law_k" : Str)] := fun kV doc pm an cdv ct us hl => match us, hl with | [_, _], _ => rfl
def f__law_sets : Fn := ⟨[.sh], 4, false, (.cons (.asg 1 false (.lst (.cons (.tup .nil) .nil))) (.cons (.for_ (.nm 2) (.rng1 (.var 0)) (.cons (.asg 1 false (.bin .add (.var 1) (.lc (.bin .add (.var 3) (.tup (.cons (.var 2) .nil))) (.nm 3) (.seq (.var 1)) .no [(("_law_one" : Str), 3)]))) .nil)) (.cons (.ret (.blt .sorted (.cons (.var 1) .nil))) .nil)))⟩
def m__law_sets : List D → M D := run G__law_stir f__law_sets
def G__law_sets : Gm := ext G__law_stir ("_law_sets" : Str) m__law_sets
def S__law_sets : Str → Option (List Pm) := addS S__law_stir ("_law_sets" : Str) [.sh]
theorem t__law_sets : trB 60 (ctOf [("_law_n" : Str), ("_law_found" : Str), ("_law_point" : Str), ("_law_one" : Str)] (defScope (top 37)) [] S__law_stir gis cls (some kdi) true) (defBody (top 37)) = some f__law_sets.body := by kernel_rfl
theorem sc__law_sets : FnScope [("_law_n" : Str), ("_law_found" : Str), ("_law_point" : Str), ("_law_one" : Str)] [("_law_n" : Str)] (defScope (top 37)) := ⟨rfl, rfl, rfl, by decide +kernel, rfl, by decide +kernel, by decide +kernel⟩
theorem b__law_sets : BindsAs ("_law_sets" : Str) (top 37) [("_law_n" : Str)] := fun kV doc pm an cdv ct us hl => match us, hl with | [_], _ => rfl
def f__law_family_by : Fn := ⟨[.sh, .sh, .sh], 7, false, (.cons (.asg 3 false (.call ("_law_sets" : Str) (.cons (.var 0) .nil))) (.cons (.ifs (.cmp .eq (.bin .md (.var 1) (.int 2)) (.int 0)) (.cons (.ret (.blt .tuple (.cons (.slc (.lc (.var 6) (.tup [5, 6]) (.enum (.var 3)) (.yes (.cmp .eq (.bin .md (.bin .shr (.bin .fdiv (.var 1) (.int 2)) (.var 5)) (.int 2)) (.int 1))) [(("_law_k" : Str), 5), (("_law_one" : Str), 6)]) .no (.yes (.var 2))) .nil))) .nil) .nil) (.cons (.asg 4 false (.lc (.idx (.var 3) (.bin .md (.call ("_law_stir" : Str) (.cons (.var 1) (.cons (.bin .add (.var 5) (.int 1)) .nil))) (.blt .len (.cons (.var 3) .nil)))) (.nm 5) (.rng1 (.bin .md (.call ("_law_stir" : Str) (.cons (.var 1) (.cons (.int 0) .nil))) (.bin .add (.var 2) (.int 1)))) .no [(("_law_k" : Str), 5)])) (.cons (.ret (.blt .tuple (.cons (.blt .sset (.cons (.var 4) .nil)) .nil))) .nil))))⟩
def m__law_family_by : List D → M D := run G__law_sets f__law_family_by
def G__law_family_by : Gm := ext G__law_sets ("_law_family_by" : Str) m__law_family_by
def S__law_family_by : Str → Option (List Pm) := addS S__law_sets ("_law_family_by" : Str) [.sh, .sh, .sh]
theorem g__law_family_by__law_sets : G__law_sets ("_law_sets" : Str) = m__law_sets := by kernel_rfl
theorem g__law_family_by__law_stir : G__law_sets ("_law_stir" : Str) = m__law_stir := by kernel_rfl
theorem t__law_family_by : trB 60 (ctOf [("_law_n" : Str), ("_law_cell" : Str), ("_law_most" : Str), ("_law_sets_here" : Str), ("_law_picked" : Str), ("_law_k" : Str), ("_law_one" : Str)] (defScope (top 38)) [] S__law_sets gis cls (some kdi) true) (defBody (top 38)) = some f__law_family_by.body := by kernel_rfl
theorem sc__law_family_by : FnScope [("_law_n" : Str), ("_law_cell" : Str), ("_law_most" : Str), ("_law_sets_here" : Str), ("_law_picked" : Str), ("_law_k" : Str), ("_law_one" : Str)] [("_law_n" : Str), ("_law_cell" : Str), ("_law_most" : Str)] (defScope (top 38)) := ⟨rfl, rfl, rfl, by decide +kernel, rfl, by decide +kernel, by decide +kernel⟩
theorem b__law_family_by : BindsAs ("_law_family_by" : Str) (top 38) [("_law_n" : Str), ("_law_cell" : Str), ("_law_most" : Str)] := fun kV doc pm an cdv ct us hl => match us, hl with | [_, _, _], _ => rfl
def f__law_unlike : Fn := ⟨[.sh, .sh], 4, false, (.cons (.asg 2 false (.bin .add (.lc (.var 3) (.nm 3) (.seq (.var 0)) (.yes (.cmp .nmem (.var 3) (.var 1))) [(("_law_point" : Str), 3)]) (.lc (.var 3) (.nm 3) (.seq (.var 1)) (.yes (.cmp .nmem (.var 3) (.var 0))) [(("_law_point" : Str), 3)]))) (.cons (.ret (.blt .tuple (.cons (.blt .sorted (.cons (.var 2) .nil)) .nil))) .nil))⟩
def m__law_unlike : List D → M D := run G__law_family_by f__law_unlike
def G__law_unlike : Gm := ext G__law_family_by ("_law_unlike" : Str) m__law_unlike
def S__law_unlike : Str → Option (List Pm) := addS S__law_family_by ("_law_unlike" : Str) [.sh, .sh]
theorem t__law_unlike : trB 60 (ctOf [("_law_one" : Str), ("_law_other" : Str), ("_law_both" : Str), ("_law_point" : Str)] (defScope (top 39)) [] S__law_family_by gis cls (some kdi) true) (defBody (top 39)) = some f__law_unlike.body := by kernel_rfl
theorem sc__law_unlike : FnScope [("_law_one" : Str), ("_law_other" : Str), ("_law_both" : Str), ("_law_point" : Str)] [("_law_one" : Str), ("_law_other" : Str)] (defScope (top 39)) := ⟨rfl, rfl, rfl, by decide +kernel, rfl, by decide +kernel, by decide +kernel⟩
theorem b__law_unlike : BindsAs ("_law_unlike" : Str) (top 39) [("_law_one" : Str), ("_law_other" : Str)] := fun kV doc pm an cdv ct us hl => match us, hl with | [_, _], _ => rfl
def f__law_total : Fn := ⟨[.sh], 3, false, (.cons (.asg 1 false (.tup .nil)) (.cons (.for_ (.nm 2) (.seq (.var 0)) (.cons (.asg 1 false (.call ("_law_unlike" : Str) (.cons (.var 1) (.cons (.var 2) .nil)))) .nil)) (.cons (.ret (.var 1)) .nil)))⟩
def m__law_total : List D → M D := run G__law_unlike f__law_total
def G__law_total : Gm := ext G__law_unlike ("_law_total" : Str) m__law_total
def S__law_total : Str → Option (List Pm) := addS S__law_unlike ("_law_total" : Str) [.sh]
theorem g__law_total__law_unlike : G__law_unlike ("_law_unlike" : Str) = m__law_unlike := by kernel_rfl
theorem t__law_total : trB 60 (ctOf [("_law_sets_here" : Str), ("_law_found" : Str), ("_law_one" : Str)] (defScope (top 40)) [] S__law_unlike gis cls (some kdi) true) (defBody (top 40)) = some f__law_total.body := by kernel_rfl
theorem sc__law_total : FnScope [("_law_sets_here" : Str), ("_law_found" : Str), ("_law_one" : Str)] [("_law_sets_here" : Str)] (defScope (top 40)) := ⟨rfl, rfl, rfl, by decide +kernel, rfl, by decide +kernel, by decide +kernel⟩
theorem b__law_total : BindsAs ("_law_total" : Str) (top 40) [("_law_sets_here" : Str)] := fun kV doc pm an cdv ct us hl => match us, hl with | [_], _ => rfl
def f__law_first_none : Fn := ⟨[.sh], 7, false, (.cons (.asg 1 false (.lst (.cons (.lst .nil) .nil))) (.cons (.for_ (.nm 2) (.rng1 (.blt .len (.cons (.var 0) .nil))) (.cons (.asg 3 false (.lst .nil)) (.cons (.for_ (.nm 4) (.seq (.var 1)) (.cons (.asg 5 false (.bin .add (.blt .max (.cons (.bin .add (.var 4) (.lst (.cons (.neg (.int 1)) .nil))) .nil)) (.int 1))) (.cons (.asg 3 false (.bin .add (.var 3) (.lc (.bin .add (.var 4) (.lst (.cons (.var 6) .nil))) (.nm 6) (.rng2 (.var 5) (.blt .len (.cons (.var 0) .nil))) .no [(("_law_k" : Str), 6)]))) .nil))) (.cons (.for_ (.nm 4) (.seq (.var 3)) (.cons (.ifs (.cmp .eq (.call ("_law_total" : Str) (.cons (.lc (.idx (.var 0) (.var 6)) (.nm 6) (.seq (.var 4)) .no [(("_law_k" : Str), 6)]) .nil)) (.tup .nil)) (.cons (.ret (.var 4)) .nil) .nil) .nil)) (.cons (.asg 1 false (.var 3)) .nil))))) (.cons (.ret .none) .nil)))⟩
def m__law_first_none : List D → M D := run G__law_total f__law_first_none
def G__law_first_none : Gm := ext G__law_total ("_law_first_none" : Str) m__law_first_none
def S__law_first_none : Str → Option (List Pm) := addS S__law_total ("_law_first_none" : Str) [.sh]
theorem g__law_first_none__law_total : G__law_total ("_law_total" : Str) = m__law_total := by kernel_rfl
theorem t__law_first_none : trB 60 (ctOf [("_law_family" : Str), ("_law_here" : Str), ("_law_size" : Str), ("_law_longer" : Str), ("_law_row" : Str), ("_law_low" : Str), ("_law_k" : Str)] (defScope (top 42)) [] S__law_total gis cls (some kdi) true) (defBody (top 42)) = some f__law_first_none.body := by kernel_rfl
theorem sc__law_first_none : FnScope [("_law_family" : Str), ("_law_here" : Str), ("_law_size" : Str), ("_law_longer" : Str), ("_law_row" : Str), ("_law_low" : Str), ("_law_k" : Str)] [("_law_family" : Str)] (defScope (top 42)) := ⟨rfl, rfl, rfl, by decide +kernel, rfl, by decide +kernel, by decide +kernel⟩
theorem b__law_first_none : BindsAs ("_law_first_none" : Str) (top 42) [("_law_family" : Str)] := fun kV doc pm an cdv ct us hl => match us, hl with | [_], _ => rfl
def f__law_came : Fn := ⟨[.sh, .sh], 3, false, (.cons (.tri kdt (.cons (.ret (.call ("none_sum" : Str) (.cons (.var 0) (.cons (.var 1) .nil)))) .nil) (.tup [.kd, (.fld ("many" : Str)), (.fld ("most" : Str))])) .nil)⟩
def m__law_came : List D → M D := run G__law_first_none f__law_came
def G__law_came : Gm := ext G__law_first_none ("_law_came" : Str) m__law_came
def S__law_came : Str → Option (List Pm) := addS S__law_first_none ("_law_came" : Str) [.sh, .sh]
theorem g__law_came_none_sum : G__law_first_none ("none_sum" : Str) = m_none_sum := by kernel_rfl
theorem t__law_came : trB 60 (ctOf [("_law_n" : Str), ("_law_family" : Str), ("_law_e" : Str)] (defScope (top 43)) [] S__law_first_none gis cls (some kdi) true) (defBody (top 43)) = some f__law_came.body := by kernel_rfl
theorem sc__law_came : FnScope [("_law_n" : Str), ("_law_family" : Str), ("_law_e" : Str)] [("_law_n" : Str), ("_law_family" : Str)] (defScope (top 43)) := ⟨rfl, rfl, rfl, by decide +kernel, rfl, by decide +kernel, by decide +kernel⟩
theorem b__law_came : BindsAs ("_law_came" : Str) (top 43) [("_law_n" : Str), ("_law_family" : Str)] := fun kV doc pm an cdv ct us hl => match us, hl with | [_, _], _ => rfl
def f_law : Fn := ⟨[.sh], 7, false, (.cons (.asg 1 false (.bin .add (.int 1) (.bin .md (.call ("_law_cell_at" : Str) (.cons (.var 0) (.cons (.int 0) .nil))) (.int 8)))) (.cons (.for_ (.nm 2) (.seq (.bin .add (.lst (.cons (.call ("_law_cell_at" : Str) (.cons (.var 0) (.cons (.int 1) .nil))) .nil)) (.slc (.var 0) (.yes (.int 2)) (.yes (.int 4))))) (.cons (.asg 4 false (.call ("_law_family_by" : Str) (.cons (.var 1) (.cons (.bin .fdiv (.var 2) (.int 4)) (.cons (.int 9) .nil))))) (.cons (.ifs (.and (.cmp .eq (.bin .md (.var 2) (.int 4)) (.int 1)) (.cmp .nmem (.tup .nil) (.var 4))) (.cons (.asg 4 false (.bin .add (.tup (.cons (.tup .nil) .nil)) (.var 4))) .nil) .nil) (.cons (.asg 5 false (.call ("_law_first_none" : Str) (.cons (.var 4) .nil))) (.cons (.asg 6 true (.fcall ("none_sum" : Str) (.cons (.var 1) (.cons (.var 4) .nil)))) (.cons (.ifT 6 (.or (.not (.call ("_law_same" : Str) (.cons (.var 6) (.cons (.var 5) .nil)))) (.cmp .ne (.cmp .isN (.var 5) .none) (.cmp .eq (.call ("rank" : Str) (.cons (.var 1) (.cons (.var 4) .nil))) (.blt .len (.cons (.var 4) .nil))))) (.cons (.ret (.bl false)) .nil) .nil) (.cons (.ifs (.cmp .notN (.var 5) .none) (.cons (.app 6 (.int 0)) (.cons (.ifs (.not (.call ("_law_same" : Str) (.cons (.call ("none_sum" : Str) (.cons (.var 1) (.cons (.var 4) .nil))) (.cons (.var 5) .nil)))) (.cons (.ret (.bl false)) .nil) .nil) .nil)) .nil) .nil))))))) (.cons (.asg 3 false (.blt .tuple (.cons (.slc (.call ("_law_sets" : Str) (.cons (.var 1) .nil)) .no (.yes (.int 13))) .nil))) (.cons (.ifs (.and (.cmp .eq (.blt .len (.cons (.var 3) .nil)) (.int 13)) (.not (.call ("_law_same" : Str) (.cons (.call ("_law_came" : Str) (.cons (.var 1) (.cons (.var 3) .nil))) (.cons (.tup (.cons (.int 9) (.cons (.int 13) (.cons (.int 12) .nil)))) .nil))))) (.cons (.ret (.bl false)) .nil) .nil) (.cons (.ret (.or (.cmp .lt (.blt .len (.cons (.var 3) .nil)) (.int 13)) (.call ("_law_same" : Str) (.cons (.call ("_law_came" : Str) (.cons (.var 1) (.cons (.slc (.var 3) (.yes (.int 1)) .no) .nil))) (.cons (.call ("_law_first_none" : Str) (.cons (.slc (.var 3) (.yes (.int 1)) .no) .nil)) .nil))))) .nil)))))⟩
def m_law : List D → M D := run G__law_came f_law
def G_law : Gm := ext G__law_came ("law" : Str) m_law
def S_law : Str → Option (List Pm) := addS S__law_came ("law" : Str) [.sh]
theorem g_law__law_came : G__law_came ("_law_came" : Str) = m__law_came := by kernel_rfl
theorem g_law__law_cell_at : G__law_came ("_law_cell_at" : Str) = m__law_cell_at := by kernel_rfl
theorem g_law__law_family_by : G__law_came ("_law_family_by" : Str) = m__law_family_by := by kernel_rfl
theorem g_law__law_first_none : G__law_came ("_law_first_none" : Str) = m__law_first_none := by kernel_rfl
theorem g_law__law_same : G__law_came ("_law_same" : Str) = m__law_same := by kernel_rfl
theorem g_law__law_sets : G__law_came ("_law_sets" : Str) = m__law_sets := by kernel_rfl
theorem g_law_none_sum : G__law_came ("none_sum" : Str) = m_none_sum := by kernel_rfl
theorem g_law_rank : G__law_came ("rank" : Str) = m_rank := by kernel_rfl
theorem t_law : trB 60 (ctOf [("_law_script" : Str), ("_law_n" : Str), ("_law_cell" : Str), ("_law_many" : Str), ("_law_family" : Str), ("_law_due" : Str), ("_law_told" : Str)] (defScope (top 44)) [6] S__law_came gis cls (some kdi) true) (defBody (top 44)) = some f_law.body := by kernel_rfl
theorem sc_law : FnScope [("_law_script" : Str), ("_law_n" : Str), ("_law_cell" : Str), ("_law_many" : Str), ("_law_family" : Str), ("_law_due" : Str), ("_law_told" : Str)] [("_law_script" : Str)] (defScope (top 44)) := ⟨rfl, rfl, rfl, by decide +kernel, rfl, by decide +kernel, by decide +kernel⟩
theorem b_law : BindsAs ("law" : Str) (top 44) [("_law_script" : Str)] := fun kV doc pm an cdv ct us hl => match us, hl with | [_], _ => rfl
theorem i_NoFamily (P : Program) (w : World) (K : PySem.W.Frag) (mg : Str → Option Value) (base : Heap) (fI : Addr) (fd : FuncData) (F : Fun K "__init__" "NoFamily.__init__" (inClass (top 10) 0) fI fd) : FnOk P w K mg base (L2.CX P w) 1 fI fd [("self" : Str), ("at" : Str)] (spIn K [("at" : Str)]) :=
  init1 F ⟨rfl, rfl, rfl, by decide +kernel, rfl, by decide +kernel, by decide +kernel⟩ rfl (by decide +kernel) (by decide +kernel) (by decide +kernel)
theorem i_TooGreat (P : Program) (w : World) (K : PySem.W.Frag) (mg : Str → Option Value) (base : Heap) (fI : Addr) (fd : FuncData) (F : Fun K "__init__" "TooGreat.__init__" (inClass (top 15) 0) fI fd) : FnOk P w K mg base (L2.CX P w) 1 fI fd [("self" : Str), ("many" : Str), ("most" : Str)] (spIn K [("many" : Str), ("most" : Str)]) :=
  init2 F ⟨rfl, rfl, rfl, by decide +kernel, rfl, by decide +kernel, by decide +kernel⟩ rfl (by decide +kernel) (by decide +kernel) (by decide +kernel) (by decide +kernel) (by decide +kernel)
theorem sc__law_kinds : FnScope [("_law_e" : Str), ("_law_found" : Str)] [("_law_e" : Str)] (defScope (top 41)) := ⟨rfl, rfl, rfl, by decide +kernel, rfl, by decide +kernel, by decide +kernel⟩
theorem b__law_kinds : BindsAs ("_law_kinds" : Str) (top 41) [("_law_e" : Str)] := fun kV doc pm an cdv ct us hl => match us, hl with | [_], _ => rfl
def kcs : List Str := [("NoGround" : Str), ("NoFamily" : Str), ("NoSet" : Str), ("NoNumber" : Str), ("NoOrder" : Str), ("NoRing" : Str), ("NotFull" : Str), ("NoSizes" : Str), ("NoMeeting" : Str), ("TooGreat" : Str), ("NoRow" : Str), ("NoText" : Str), ("NoPairs" : Str), ("Flawed" : Str)]
def kbs : List (List Bool) := [[true, false, false, false, false, false, false, false, false, false, false, false, false, false], [false, true, false, false, false, false, false, false, false, false, false, false, false, false], [false, false, false, false, false, false, false, false, false, true, false, false, false, false]]
theorem kd_q : kdBody ("_law_e" : Str) ("_law_found" : Str) (defBody (top 41)) = some kcs := by kernel_rfl
theorem kdf_mk {K : PySem.W.Frag} {M D0 D1 D2 D3 D4 D5 D6 D7 D8 D9 D10 D11 D12 D13 C0 C1 C2 : Addr}
    (i0 : PySem.W.nsIn K mainGlobals "isinstance" = some none)
    (v0 : PySem.W.nsIn K mainGlobals "ValueError" = some none)
    (m0 : PySem.W.nsIn K mainGlobals ("MeetError" : Str) = some (some (.ref M)))
    (m1 : PySem.W.subIn K (.ref M) (.type "BaseException") = some true)
    (m2 : PySem.W.hasDictIn K M = true)
    (m3 : PySem.W.typeIn K (.ref M) = some (.type "type"))
    (d0a : PySem.W.nsIn K mainGlobals ("NoGround" : Str) = some (some (.ref D0)))
    (d0b : PySem.W.hasDictIn K D0 = true)
    (d0c : PySem.W.typeIn K (.ref D0) = some (.type "type"))
    (d1a : PySem.W.nsIn K mainGlobals ("NoFamily" : Str) = some (some (.ref D1)))
    (d1b : PySem.W.hasDictIn K D1 = true)
    (d1c : PySem.W.typeIn K (.ref D1) = some (.type "type"))
    (d2a : PySem.W.nsIn K mainGlobals ("NoSet" : Str) = some (some (.ref D2)))
    (d2b : PySem.W.hasDictIn K D2 = true)
    (d2c : PySem.W.typeIn K (.ref D2) = some (.type "type"))
    (d3a : PySem.W.nsIn K mainGlobals ("NoNumber" : Str) = some (some (.ref D3)))
    (d3b : PySem.W.hasDictIn K D3 = true)
    (d3c : PySem.W.typeIn K (.ref D3) = some (.type "type"))
    (d4a : PySem.W.nsIn K mainGlobals ("NoOrder" : Str) = some (some (.ref D4)))
    (d4b : PySem.W.hasDictIn K D4 = true)
    (d4c : PySem.W.typeIn K (.ref D4) = some (.type "type"))
    (d5a : PySem.W.nsIn K mainGlobals ("NoRing" : Str) = some (some (.ref D5)))
    (d5b : PySem.W.hasDictIn K D5 = true)
    (d5c : PySem.W.typeIn K (.ref D5) = some (.type "type"))
    (d6a : PySem.W.nsIn K mainGlobals ("NotFull" : Str) = some (some (.ref D6)))
    (d6b : PySem.W.hasDictIn K D6 = true)
    (d6c : PySem.W.typeIn K (.ref D6) = some (.type "type"))
    (d7a : PySem.W.nsIn K mainGlobals ("NoSizes" : Str) = some (some (.ref D7)))
    (d7b : PySem.W.hasDictIn K D7 = true)
    (d7c : PySem.W.typeIn K (.ref D7) = some (.type "type"))
    (d8a : PySem.W.nsIn K mainGlobals ("NoMeeting" : Str) = some (some (.ref D8)))
    (d8b : PySem.W.hasDictIn K D8 = true)
    (d8c : PySem.W.typeIn K (.ref D8) = some (.type "type"))
    (d9a : PySem.W.nsIn K mainGlobals ("TooGreat" : Str) = some (some (.ref D9)))
    (d9b : PySem.W.hasDictIn K D9 = true)
    (d9c : PySem.W.typeIn K (.ref D9) = some (.type "type"))
    (d10a : PySem.W.nsIn K mainGlobals ("NoRow" : Str) = some (some (.ref D10)))
    (d10b : PySem.W.hasDictIn K D10 = true)
    (d10c : PySem.W.typeIn K (.ref D10) = some (.type "type"))
    (d11a : PySem.W.nsIn K mainGlobals ("NoText" : Str) = some (some (.ref D11)))
    (d11b : PySem.W.hasDictIn K D11 = true)
    (d11c : PySem.W.typeIn K (.ref D11) = some (.type "type"))
    (d12a : PySem.W.nsIn K mainGlobals ("NoPairs" : Str) = some (some (.ref D12)))
    (d12b : PySem.W.hasDictIn K D12 = true)
    (d12c : PySem.W.typeIn K (.ref D12) = some (.type "type"))
    (d13a : PySem.W.nsIn K mainGlobals ("Flawed" : Str) = some (some (.ref D13)))
    (d13b : PySem.W.hasDictIn K D13 = true)
    (d13c : PySem.W.typeIn K (.ref D13) = some (.type "type"))
    (e0a : PySem.W.nsIn K mainGlobals ("NoGround" : Str) = some (some (.ref C0)))
    (e0b : PySem.W.findIn K (.ref C0) "__getattribute__" = some (some (.builtin "BaseException.__getattribute__")))
    (e0c : PySem.W.findIn K (.ref C0) "__getattr__" = some none)
    (e0d : PySem.W.subIn K (.ref C0) (.type "BaseException") = some true)
    (e0e : PySem.W.hasDictIn K C0 = true)
    (e0f : PySem.W.findIn K (.ref C0) "__class__" = some (some (.builtin "object.__class__")))
    (e0g : PySem.W.mroIn K C0 (.type "object") = some true)
    (e0h : PySem.W.specialIn K (.builtin "object.__class__") "__get__" = some (some (.builtin "getset_descriptor.__get__")))
    (e0i : PySem.W.takesIn K (.builtin "object.__class__") = some true)
    (e0j : PySem.W.subIn K (.ref C0) (.type "ValueError") = some true)
    (e0k : PySem.W.subIn K (.ref C0) (.ref M) = some true)
    (e0s0 : PySem.W.subIn K (.ref C0) (.ref D0) = some true)
    (e0t0 : (Value.ref C0 == Value.ref D0 && !true) = false)
    (e0s1 : PySem.W.subIn K (.ref C0) (.ref D1) = some false)
    (e0t1 : (Value.ref C0 == Value.ref D1 && !false) = false)
    (e0s2 : PySem.W.subIn K (.ref C0) (.ref D2) = some false)
    (e0t2 : (Value.ref C0 == Value.ref D2 && !false) = false)
    (e0s3 : PySem.W.subIn K (.ref C0) (.ref D3) = some false)
    (e0t3 : (Value.ref C0 == Value.ref D3 && !false) = false)
    (e0s4 : PySem.W.subIn K (.ref C0) (.ref D4) = some false)
    (e0t4 : (Value.ref C0 == Value.ref D4 && !false) = false)
    (e0s5 : PySem.W.subIn K (.ref C0) (.ref D5) = some false)
    (e0t5 : (Value.ref C0 == Value.ref D5 && !false) = false)
    (e0s6 : PySem.W.subIn K (.ref C0) (.ref D6) = some false)
    (e0t6 : (Value.ref C0 == Value.ref D6 && !false) = false)
    (e0s7 : PySem.W.subIn K (.ref C0) (.ref D7) = some false)
    (e0t7 : (Value.ref C0 == Value.ref D7 && !false) = false)
    (e0s8 : PySem.W.subIn K (.ref C0) (.ref D8) = some false)
    (e0t8 : (Value.ref C0 == Value.ref D8 && !false) = false)
    (e0s9 : PySem.W.subIn K (.ref C0) (.ref D9) = some false)
    (e0t9 : (Value.ref C0 == Value.ref D9 && !false) = false)
    (e0s10 : PySem.W.subIn K (.ref C0) (.ref D10) = some false)
    (e0t10 : (Value.ref C0 == Value.ref D10 && !false) = false)
    (e0s11 : PySem.W.subIn K (.ref C0) (.ref D11) = some false)
    (e0t11 : (Value.ref C0 == Value.ref D11 && !false) = false)
    (e0s12 : PySem.W.subIn K (.ref C0) (.ref D12) = some false)
    (e0t12 : (Value.ref C0 == Value.ref D12 && !false) = false)
    (e0s13 : PySem.W.subIn K (.ref C0) (.ref D13) = some false)
    (e0t13 : (Value.ref C0 == Value.ref D13 && !false) = false)
    (e1a : PySem.W.nsIn K mainGlobals ("NoFamily" : Str) = some (some (.ref C1)))
    (e1b : PySem.W.findIn K (.ref C1) "__getattribute__" = some (some (.builtin "BaseException.__getattribute__")))
    (e1c : PySem.W.findIn K (.ref C1) "__getattr__" = some none)
    (e1d : PySem.W.subIn K (.ref C1) (.type "BaseException") = some true)
    (e1e : PySem.W.hasDictIn K C1 = true)
    (e1f : PySem.W.findIn K (.ref C1) "__class__" = some (some (.builtin "object.__class__")))
    (e1g : PySem.W.mroIn K C1 (.type "object") = some true)
    (e1h : PySem.W.specialIn K (.builtin "object.__class__") "__get__" = some (some (.builtin "getset_descriptor.__get__")))
    (e1i : PySem.W.takesIn K (.builtin "object.__class__") = some true)
    (e1j : PySem.W.subIn K (.ref C1) (.type "ValueError") = some true)
    (e1k : PySem.W.subIn K (.ref C1) (.ref M) = some true)
    (e1n0 : PySem.W.findIn K (.ref C1) ("at" : Str) = some none)
    (e1s0 : PySem.W.subIn K (.ref C1) (.ref D0) = some false)
    (e1t0 : (Value.ref C1 == Value.ref D0 && !false) = false)
    (e1s1 : PySem.W.subIn K (.ref C1) (.ref D1) = some true)
    (e1t1 : (Value.ref C1 == Value.ref D1 && !true) = false)
    (e1s2 : PySem.W.subIn K (.ref C1) (.ref D2) = some false)
    (e1t2 : (Value.ref C1 == Value.ref D2 && !false) = false)
    (e1s3 : PySem.W.subIn K (.ref C1) (.ref D3) = some false)
    (e1t3 : (Value.ref C1 == Value.ref D3 && !false) = false)
    (e1s4 : PySem.W.subIn K (.ref C1) (.ref D4) = some false)
    (e1t4 : (Value.ref C1 == Value.ref D4 && !false) = false)
    (e1s5 : PySem.W.subIn K (.ref C1) (.ref D5) = some false)
    (e1t5 : (Value.ref C1 == Value.ref D5 && !false) = false)
    (e1s6 : PySem.W.subIn K (.ref C1) (.ref D6) = some false)
    (e1t6 : (Value.ref C1 == Value.ref D6 && !false) = false)
    (e1s7 : PySem.W.subIn K (.ref C1) (.ref D7) = some false)
    (e1t7 : (Value.ref C1 == Value.ref D7 && !false) = false)
    (e1s8 : PySem.W.subIn K (.ref C1) (.ref D8) = some false)
    (e1t8 : (Value.ref C1 == Value.ref D8 && !false) = false)
    (e1s9 : PySem.W.subIn K (.ref C1) (.ref D9) = some false)
    (e1t9 : (Value.ref C1 == Value.ref D9 && !false) = false)
    (e1s10 : PySem.W.subIn K (.ref C1) (.ref D10) = some false)
    (e1t10 : (Value.ref C1 == Value.ref D10 && !false) = false)
    (e1s11 : PySem.W.subIn K (.ref C1) (.ref D11) = some false)
    (e1t11 : (Value.ref C1 == Value.ref D11 && !false) = false)
    (e1s12 : PySem.W.subIn K (.ref C1) (.ref D12) = some false)
    (e1t12 : (Value.ref C1 == Value.ref D12 && !false) = false)
    (e1s13 : PySem.W.subIn K (.ref C1) (.ref D13) = some false)
    (e1t13 : (Value.ref C1 == Value.ref D13 && !false) = false)
    (e2a : PySem.W.nsIn K mainGlobals ("TooGreat" : Str) = some (some (.ref C2)))
    (e2b : PySem.W.findIn K (.ref C2) "__getattribute__" = some (some (.builtin "BaseException.__getattribute__")))
    (e2c : PySem.W.findIn K (.ref C2) "__getattr__" = some none)
    (e2d : PySem.W.subIn K (.ref C2) (.type "BaseException") = some true)
    (e2e : PySem.W.hasDictIn K C2 = true)
    (e2f : PySem.W.findIn K (.ref C2) "__class__" = some (some (.builtin "object.__class__")))
    (e2g : PySem.W.mroIn K C2 (.type "object") = some true)
    (e2h : PySem.W.specialIn K (.builtin "object.__class__") "__get__" = some (some (.builtin "getset_descriptor.__get__")))
    (e2i : PySem.W.takesIn K (.builtin "object.__class__") = some true)
    (e2j : PySem.W.subIn K (.ref C2) (.type "ValueError") = some true)
    (e2k : PySem.W.subIn K (.ref C2) (.ref M) = some true)
    (e2n0 : PySem.W.findIn K (.ref C2) ("many" : Str) = some none)
    (e2n1 : PySem.W.findIn K (.ref C2) ("most" : Str) = some none)
    (e2s0 : PySem.W.subIn K (.ref C2) (.ref D0) = some false)
    (e2t0 : (Value.ref C2 == Value.ref D0 && !false) = false)
    (e2s1 : PySem.W.subIn K (.ref C2) (.ref D1) = some false)
    (e2t1 : (Value.ref C2 == Value.ref D1 && !false) = false)
    (e2s2 : PySem.W.subIn K (.ref C2) (.ref D2) = some false)
    (e2t2 : (Value.ref C2 == Value.ref D2 && !false) = false)
    (e2s3 : PySem.W.subIn K (.ref C2) (.ref D3) = some false)
    (e2t3 : (Value.ref C2 == Value.ref D3 && !false) = false)
    (e2s4 : PySem.W.subIn K (.ref C2) (.ref D4) = some false)
    (e2t4 : (Value.ref C2 == Value.ref D4 && !false) = false)
    (e2s5 : PySem.W.subIn K (.ref C2) (.ref D5) = some false)
    (e2t5 : (Value.ref C2 == Value.ref D5 && !false) = false)
    (e2s6 : PySem.W.subIn K (.ref C2) (.ref D6) = some false)
    (e2t6 : (Value.ref C2 == Value.ref D6 && !false) = false)
    (e2s7 : PySem.W.subIn K (.ref C2) (.ref D7) = some false)
    (e2t7 : (Value.ref C2 == Value.ref D7 && !false) = false)
    (e2s8 : PySem.W.subIn K (.ref C2) (.ref D8) = some false)
    (e2t8 : (Value.ref C2 == Value.ref D8 && !false) = false)
    (e2s9 : PySem.W.subIn K (.ref C2) (.ref D9) = some true)
    (e2t9 : (Value.ref C2 == Value.ref D9 && !true) = false)
    (e2s10 : PySem.W.subIn K (.ref C2) (.ref D10) = some false)
    (e2t10 : (Value.ref C2 == Value.ref D10 && !false) = false)
    (e2s11 : PySem.W.subIn K (.ref C2) (.ref D11) = some false)
    (e2t11 : (Value.ref C2 == Value.ref D11 && !false) = false)
    (e2s12 : PySem.W.subIn K (.ref C2) (.ref D12) = some false)
    (e2t12 : (Value.ref C2 == Value.ref D12 && !false) = false)
    (e2s13 : PySem.W.subIn K (.ref C2) (.ref D13) = some false)
    (e2t13 : (Value.ref C2 == Value.ref D13 && !false) = false)
    : KdFacts K ("MeetError" : Str) kcs kdt kbs := KdFacts.mk i0 v0 m0 m1 m2 m3 (DL.clsRow.c d0a d0b d0c (DL.clsRow.c d1a d1b d1c (DL.clsRow.c d2a d2b d2c (DL.clsRow.c d3a d3b d3c (DL.clsRow.c d4a d4b d4c (DL.clsRow.c d5a d5b d5c (DL.clsRow.c d6a d6b d6c (DL.clsRow.c d7a d7b d7c (DL.clsRow.c d8a d8b d8c (DL.clsRow.c d9a d9b d9c (DL.clsRow.c d10a d10b d10c (DL.clsRow.c d11a d11b d11c (DL.clsRow.c d12a d12b d12c (DL.clsRow.c d13a d13b d13c (DL.clsRow.n))))))))))))))) (DL.erRows.c (DL.ErRow.mk e0a e0b e0c e0d e0e e0f e0g e0h e0i e0j e0k (DL.noF.n) (DL.subRow.c e0s0 e0t0 (DL.subRow.c e0s1 e0t1 (DL.subRow.c e0s2 e0t2 (DL.subRow.c e0s3 e0t3 (DL.subRow.c e0s4 e0t4 (DL.subRow.c e0s5 e0t5 (DL.subRow.c e0s6 e0t6 (DL.subRow.c e0s7 e0t7 (DL.subRow.c e0s8 e0t8 (DL.subRow.c e0s9 e0t9 (DL.subRow.c e0s10 e0t10 (DL.subRow.c e0s11 e0t11 (DL.subRow.c e0s12 e0t12 (DL.subRow.c e0s13 e0t13 (DL.subRow.n)))))))))))))))) (DL.erRows.c (DL.ErRow.mk e1a e1b e1c e1d e1e e1f e1g e1h e1i e1j e1k (DL.noF.c e1n0 (DL.noF.n)) (DL.subRow.c e1s0 e1t0 (DL.subRow.c e1s1 e1t1 (DL.subRow.c e1s2 e1t2 (DL.subRow.c e1s3 e1t3 (DL.subRow.c e1s4 e1t4 (DL.subRow.c e1s5 e1t5 (DL.subRow.c e1s6 e1t6 (DL.subRow.c e1s7 e1t7 (DL.subRow.c e1s8 e1t8 (DL.subRow.c e1s9 e1t9 (DL.subRow.c e1s10 e1t10 (DL.subRow.c e1s11 e1t11 (DL.subRow.c e1s12 e1t12 (DL.subRow.c e1s13 e1t13 (DL.subRow.n)))))))))))))))) (DL.erRows.c (DL.ErRow.mk e2a e2b e2c e2d e2e e2f e2g e2h e2i e2j e2k (DL.noF.c e2n0 (DL.noF.c e2n1 (DL.noF.n))) (DL.subRow.c e2s0 e2t0 (DL.subRow.c e2s1 e2t1 (DL.subRow.c e2s2 e2t2 (DL.subRow.c e2s3 e2t3 (DL.subRow.c e2s4 e2t4 (DL.subRow.c e2s5 e2t5 (DL.subRow.c e2s6 e2t6 (DL.subRow.c e2s7 e2t7 (DL.subRow.c e2s8 e2t8 (DL.subRow.c e2s9 e2t9 (DL.subRow.c e2s10 e2t10 (DL.subRow.c e2s11 e2t11 (DL.subRow.c e2s12 e2t12 (DL.subRow.c e2s13 e2t13 (DL.subRow.n)))))))))))))))) (DL.erRows.n))))
theorem all_mk {P : Program} {w : World} {K : PySem.W.Frag} {h : Heap} {mg : Str → Option Value} {fa : Addr} (X : K.In h) (G : h.Ns mainGlobals mg) (hfa : mg ("law" : Str) = some (.ref fa))
    (d__law_kinds : DefAt K ("_law_kinds" : Str) (top 41))
    (kdf : KdFacts K ("MeetError" : Str) kcs kdt kbs)
    (d_is_whole : DefAt K ("is_whole" : Str) (top 18))
    (d_is_from : DefAt K ("is_from" : Str) (top 19))
    (d_ground_good : DefAt K ("ground_good" : Str) (top 20))
    (d_set_good : DefAt K ("set_good" : Str) (top 21))
    (d_first_flaw : DefAt K ("first_flaw" : Str) (top 22))
    (d_need_ground : DefAt K ("need_ground" : Str) (top 23))
    (d_need_family : DefAt K ("need_family" : Str) (top 24))
    (d_need_few : DefAt K ("need_few" : Str) (top 25))
    (d_unlike : DefAt K ("unlike" : Str) (top 28))
    (d_parted_ways : DefAt K ("parted_ways" : Str) (top 29))
    (d_own : DefAt K ("own" : Str) (top 30))
    (d_rank : DefAt K ("rank" : Str) (top 31))
    (d_none_sum : DefAt K ("none_sum" : Str) (top 32))
    (d__law_cell_at : DefAt K ("_law_cell_at" : Str) (top 34))
    (d__law_same : DefAt K ("_law_same" : Str) (top 35))
    (d__law_stir : DefAt K ("_law_stir" : Str) (top 36))
    (d__law_sets : DefAt K ("_law_sets" : Str) (top 37))
    (d__law_family_by : DefAt K ("_law_family_by" : Str) (top 38))
    (d__law_unlike : DefAt K ("_law_unlike" : Str) (top 39))
    (d__law_total : DefAt K ("_law_total" : Str) (top 40))
    (d__law_first_none : DefAt K ("_law_first_none" : Str) (top 42))
    (d__law_came : DefAt K ("_law_came" : Str) (top 43))
    (d_law : DefAt K ("law" : Str) (top 44))
    (c_NoGround : ClsAt0 K ("NoGround" : Str))
    (c_NoFamily : ClsAtF K ("NoFamily" : Str) ("NoFamily.__init__" : Str) [("at" : Str)] (inClass (top 10) 0))
    (c_TooGreat : ClsAtF K ("TooGreat" : Str) ("TooGreat.__init__" : Str) [("many" : Str), ("most" : Str)] (inClass (top 15) 0))
    (g_MOST_POINTS : ∃ t, PySem.W.nsIn K mainGlobals ("MOST_POINTS" : Str) = some (some (.int (8) t)))
    (g_MOST_GONE_THROUGH : ∃ t, PySem.W.nsIn K mainGlobals ("MOST_GONE_THROUGH" : Str) = some (some (.int (12) t)))
    (nl : nlK K = true)
    (zz : nsNone K bltNames)
    : ∃ fd : FuncData, (∀ (s : Shared) (u : Value), BindsTo s fd ⟨[u], []⟩ [(("_law_script" : Str), u)]) ∧ ∀ base : Heap, K.In base → base.Ns mainGlobals mg → FnOk P w K mg base (L2.CX P w) 36 fa fd [("_law_script" : Str)] (spLw K m_law) := by
  obtain ⟨fd, e_law, hb⟩ := d_law.law X G sc_law b_law hfa
  refine ⟨fd, hb, fun base _ _ => law_fn ?_⟩
  have h0 : MdOk P w K mg base sig0 gis cls (some kdi) 3 G0 := by
    refine ⟨fun f ms e => (by cases e), fun x i e => ?_, fun x ns e Y h1 h2 h3 h4 h5 => ?_, zz.all X G, ?_⟩
    · unfold gis at e
      split at e
      · rename_i q; subst q; cases e; obtain ⟨t, z⟩ := g_MOST_POINTS; exact ⟨t, PySem.W.mg_of X G z⟩
      split at e
      · rename_i q; subst q; cases e; obtain ⟨t, z⟩ := g_MOST_GONE_THROUGH; exact ⟨t, PySem.W.mg_of X G z⟩
      cases e
    · unfold cls at e
      split at e
      · rename_i q; subst q; cases e; exact c_NoGround.ra X G Y h3 h4 3
      split at e
      · rename_i q; subst q; cases e; exact c_NoFamily.ra X G (by decide) (by decide) (fun P w base fI fd F => i_NoFamily P w K mg base fI fd F) (fun kV doc pm an cdv ct us hl => match us, hl with | [_, _], _ => rfl) Y h3 h4 (by decide)
      split at e
      · rename_i q; subst q; cases e; exact c_TooGreat.ra X G (by decide) (by decide) (fun P w base fI fd F => i_TooGreat P w K mg base fI fd F) (fun kV doc pm an cdv ct us hl => match us, hl with | [_, _, _], _ => rfl) Y h3 h4 (by decide)
      cases e
    · intro t e
      cases e
      exact (KdFacts.ok (t := kdi) kdf d__law_kinds X G sc__law_kinds b__law_kinds kd_q (by decide +kernel) (by decide +kernel) (by decide +kernel) (by decide +kernel) (by decide +kernel) (by decide +kernel) (by decide +kernel)).mono (by decide)
  obtain ⟨_, _, e_is_whole⟩ := d_is_whole.ok (ms := [.sh]) X G sc_is_whole rfl b_is_whole
  have h_is_whole := h0.next e_is_whole t_is_whole (fun _ => nl)
  obtain ⟨_, _, e_is_from⟩ := d_is_from.ok (ms := [.sh, .sh, .sh]) X G sc_is_from rfl b_is_from
  have h_is_from := h_is_whole.next e_is_from t_is_from (fun _ => nl)
  obtain ⟨_, _, e_ground_good⟩ := d_ground_good.ok (ms := [.sh]) X G sc_ground_good rfl b_ground_good
  have h_ground_good := h_is_from.next e_ground_good t_ground_good (fun _ => nl)
  obtain ⟨_, _, e_set_good⟩ := d_set_good.ok (ms := [.sh, .sh]) X G sc_set_good rfl b_set_good
  have h_set_good := h_ground_good.next e_set_good t_set_good (fun _ => nl)
  obtain ⟨_, _, e_first_flaw⟩ := d_first_flaw.ok (ms := [.sh, .sh]) X G sc_first_flaw rfl b_first_flaw
  have h_first_flaw := h_set_good.next e_first_flaw t_first_flaw (fun _ => nl)
  obtain ⟨_, _, e_need_ground⟩ := d_need_ground.ok (ms := [.sh]) X G sc_need_ground rfl b_need_ground
  have h_need_ground := h_first_flaw.next e_need_ground t_need_ground (fun _ => nl)
  obtain ⟨_, _, e_need_family⟩ := d_need_family.ok (ms := [.sh, .sh]) X G sc_need_family rfl b_need_family
  have h_need_family := h_need_ground.next e_need_family t_need_family (fun _ => nl)
  obtain ⟨_, _, e_need_few⟩ := d_need_few.ok (ms := [.sh, .sh]) X G sc_need_few rfl b_need_few
  have h_need_few := h_need_family.next e_need_few t_need_few (fun _ => nl)
  obtain ⟨_, _, e_unlike⟩ := d_unlike.ok (ms := [.sh, .sh]) X G sc_unlike rfl b_unlike
  have h_unlike := h_need_few.next e_unlike t_unlike (fun _ => nl)
  obtain ⟨_, _, e_parted_ways⟩ := d_parted_ways.ok (ms := [.sh]) X G sc_parted_ways rfl b_parted_ways
  have h_parted_ways := h_unlike.next e_parted_ways t_parted_ways (fun _ => nl)
  obtain ⟨_, _, e_own⟩ := d_own.ok (ms := [.sh, .sh]) X G sc_own rfl b_own
  have h_own := h_parted_ways.next e_own t_own (fun _ => nl)
  obtain ⟨_, _, e_rank⟩ := d_rank.ok (ms := [.sh, .sh]) X G sc_rank rfl b_rank
  have h_rank := h_own.next e_rank t_rank (fun _ => nl)
  obtain ⟨_, _, e_none_sum⟩ := d_none_sum.ok (ms := [.sh, .sh]) X G sc_none_sum rfl b_none_sum
  have h_none_sum := h_rank.next e_none_sum t_none_sum (fun _ => nl)
  obtain ⟨_, _, e__law_cell_at⟩ := d__law_cell_at.ok (ms := [.sh, .sh]) X G sc__law_cell_at rfl b__law_cell_at
  have h__law_cell_at := h_none_sum.next e__law_cell_at t__law_cell_at (fun _ => nl)
  obtain ⟨_, _, e__law_same⟩ := d__law_same.ok (ms := [.sh, .sh]) X G sc__law_same rfl b__law_same
  have h__law_same := h__law_cell_at.nextRec e__law_same 10 t__law_same (fun _ => nl)
  obtain ⟨_, _, e__law_stir⟩ := d__law_stir.ok (ms := [.sh, .sh]) X G sc__law_stir rfl b__law_stir
  have h__law_stir := h__law_same.next e__law_stir t__law_stir (fun _ => nl)
  obtain ⟨_, _, e__law_sets⟩ := d__law_sets.ok (ms := [.sh]) X G sc__law_sets rfl b__law_sets
  have h__law_sets := h__law_stir.next e__law_sets t__law_sets (fun _ => nl)
  obtain ⟨_, _, e__law_family_by⟩ := d__law_family_by.ok (ms := [.sh, .sh, .sh]) X G sc__law_family_by rfl b__law_family_by
  have h__law_family_by := h__law_sets.next e__law_family_by t__law_family_by (fun _ => nl)
  obtain ⟨_, _, e__law_unlike⟩ := d__law_unlike.ok (ms := [.sh, .sh]) X G sc__law_unlike rfl b__law_unlike
  have h__law_unlike := h__law_family_by.next e__law_unlike t__law_unlike (fun _ => nl)
  obtain ⟨_, _, e__law_total⟩ := d__law_total.ok (ms := [.sh]) X G sc__law_total rfl b__law_total
  have h__law_total := h__law_unlike.next e__law_total t__law_total (fun _ => nl)
  obtain ⟨_, _, e__law_first_none⟩ := d__law_first_none.ok (ms := [.sh]) X G sc__law_first_none rfl b__law_first_none
  have h__law_first_none := h__law_total.next e__law_first_none t__law_first_none (fun _ => nl)
  obtain ⟨_, _, e__law_came⟩ := d__law_came.ok (ms := [.sh, .sh]) X G sc__law_came rfl b__law_came
  have h__law_came := h__law_first_none.next e__law_came t__law_came (fun _ => nl)
  exact fn_ok h__law_came e_law.F e_law.S e_law.hm t_law (fun _ => nl)
end LW

namespace LW
open DL
open PySem (Str PyData)
def isW : D → Bool
  | .int _ => true
  | _ => false
theorem m_is_whole_ok (d : D) : m_is_whole [d] = .ok (.bool (isW d)) := by
  refine run_ret [.sh d] rfl rfl ?_
  cases d <;> rfl

def isFrom (a b : Int) : D → Bool
  | .int i => decide (a ≤ i) && decide (i ≤ b)
  | _ => false
theorem m_is_from_ok (d : D) (a b : Int) : m_is_from [d, .int a, .int b] = .ok (.bool (isFrom a b d)) := by
  refine run_ret [.sh d, .sh (.int a), .sh (.int b)] rfl rfl ?_
  cases d <;> simp only [f_is_from, DL.execs, DL.exec, DL.ev, DL.evs, DL.evo, DL.evc, DL.evi, DL.evB_bool, DL.getSh0, DL.getSh_s, DL.getB0, DL.getB0o, DL.getB_s, DL.M.bind_ok, DL.M.bind_ex, DL.M.ofO_some, DL.onNext, if_true, if_false, if_pos, Bool.false_eq_true, DL.put, DL.tyD, List.set_cons_zero, List.set_cons_succ, Bool.not_true, Bool.not_false, DL.forRun, DL.bindT, DL.setAll, DL.items_t, DL.items_l, DL.c_lti, DL.c_lei, DL.c_gti, DL.c_gei, DL.c_eqi, DL.c_nei, DL.wipe, List.map_cons, List.map_nil, DL.fl, reduceCtorEq, false_and, and_false, Nat.reduceEqDiff, DL.noX_ok, DL.items_lD, DL.items_fD, DL.items_tD, DL.mkTup0, DL.mkTup1i, DL.mkTup1t, DL.mkTup2t, DL.mkLst0, DL.mkLst1t, DL.sorted_lD, DL.tuple_lD, DL.len_lD, DL.len_fD, DL.len_tD, g_is_from_is_whole, m_is_whole_ok, isW, isFrom]
  rename_i i
  by_cases h : a ≤ i <;> simp [h, evB]

theorem m_ground_good_ok (d : D) : m_ground_good [d] = .ok (.bool (isFrom 1 8 d)) := by
  refine run_ret [.sh d] rfl rfl ?_
  simp only [f_ground_good, DL.execs, DL.exec, DL.ev, DL.evs, DL.evo, DL.evc, DL.evi, DL.evB_bool, DL.getSh0, DL.getSh_s, DL.getB0, DL.getB0o, DL.getB_s, DL.M.bind_ok, DL.M.bind_ex, DL.M.ofO_some, DL.onNext, if_true, if_false, if_pos, Bool.false_eq_true, DL.put, DL.tyD, List.set_cons_zero, List.set_cons_succ, Bool.not_true, Bool.not_false, DL.forRun, DL.bindT, DL.setAll, DL.items_t, DL.items_l, DL.c_lti, DL.c_lei, DL.c_gti, DL.c_gei, DL.c_eqi, DL.c_nei, DL.wipe, List.map_cons, List.map_nil, DL.fl, reduceCtorEq, false_and, and_false, Nat.reduceEqDiff, DL.noX_ok, DL.items_lD, DL.items_fD, DL.items_tD, DL.mkTup0, DL.mkTup1i, DL.mkTup1t, DL.mkTup2t, DL.mkLst0, DL.mkLst1t, DL.sorted_lD, DL.tuple_lD, DL.len_lD, DL.len_fD, DL.len_tD, g_ground_good_is_from, m_is_from_ok]

/-- good points, behind last -/
def goodL (n : Int) : Int → List D → Bool
  | _, [] => true
  | last, .int p :: ps => decide (last + 1 ≤ p) && decide (p ≤ n - 1) && goodL n p ps
  | _, _ :: _ => false
theorem set_good_for (n : Int) (k0 : D) : ∀ (k : List D) (last : Int) (x : Sl), ∃ r, forRun (.nm 3) (execs G_ground_good (.cons (.ifs (.not (.call ("is_from" : Str) (.cons (.var 3) (.cons (.bin .add (.var 2) (.int 1)) (.cons (.bin .sub (.var 0) (.int 1)) .nil))))) (.cons (.ret (.bl false)) .nil) .nil) (.cons (.asg 2 false (.var 3)) .nil))) k [.sh (.int n), .sh k0, .sh (.int last), x] =
    .ok (if goodL n last k = true then .next r else .ret (.bool false))
  | [], last, x => ⟨_, rfl⟩
  | d :: k, last, x => by
    cases d
    case int p =>
      obtain ⟨r, ih⟩ := set_good_for n k0 k p (.sh (.int p))
      refine ⟨r, ?_⟩
      simp only [DL.execs, DL.exec, DL.ev, DL.evs, DL.evo, DL.evc, DL.evi, DL.evB_bool, DL.getSh0, DL.getSh_s, DL.getB0, DL.getB0o, DL.getB_s, DL.M.bind_ok, DL.M.bind_ex, DL.M.ofO_some, DL.onNext, if_true, if_false, if_pos, Bool.false_eq_true, DL.put, DL.tyD, List.set_cons_zero, List.set_cons_succ, Bool.not_true, Bool.not_false, DL.forRun, DL.bindT, DL.setAll, DL.items_t, DL.items_l, DL.c_lti, DL.c_lei, DL.c_gti, DL.c_gei, DL.c_eqi, DL.c_nei, DL.wipe, List.map_cons, List.map_nil, DL.fl, reduceCtorEq, false_and, and_false, Nat.reduceEqDiff, DL.noX_ok, DL.items_lD, DL.items_fD, DL.items_tD, DL.mkTup0, DL.mkTup1i, DL.mkTup1t, DL.mkTup2t, DL.mkLst0, DL.mkLst1t, DL.sorted_lD, DL.tuple_lD, DL.len_lD, DL.len_fD, DL.len_tD, binD, g_set_good_is_from, m_is_from_ok, isFrom, goodL]
      by_cases h : (decide (last + 1 ≤ p) && decide (p ≤ n - 1)) = true
      · simp only [h, DL.execs, DL.exec, DL.ev, DL.evs, DL.evo, DL.evc, DL.evi, DL.evB_bool, DL.getSh0, DL.getSh_s, DL.getB0, DL.getB0o, DL.getB_s, DL.M.bind_ok, DL.M.bind_ex, DL.M.ofO_some, DL.onNext, if_true, if_false, if_pos, Bool.false_eq_true, DL.put, DL.tyD, List.set_cons_zero, List.set_cons_succ, Bool.not_true, Bool.not_false, DL.forRun, DL.bindT, DL.setAll, DL.items_t, DL.items_l, DL.c_lti, DL.c_lei, DL.c_gti, DL.c_gei, DL.c_eqi, DL.c_nei, DL.wipe, List.map_cons, List.map_nil, DL.fl, reduceCtorEq, false_and, and_false, Nat.reduceEqDiff, DL.noX_ok, DL.items_lD, DL.items_fD, DL.items_tD, DL.mkTup0, DL.mkTup1i, DL.mkTup1t, DL.mkTup2t, DL.mkLst0, DL.mkLst1t, DL.sorted_lD, DL.tuple_lD, DL.len_lD, DL.len_fD, DL.len_tD, Bool.true_and]
        exact ih
      · rw [Bool.not_eq_true] at h
        simp only [h, DL.execs, DL.exec, DL.ev, DL.evs, DL.evo, DL.evc, DL.evi, DL.evB_bool, DL.getSh0, DL.getSh_s, DL.getB0, DL.getB0o, DL.getB_s, DL.M.bind_ok, DL.M.bind_ex, DL.M.ofO_some, DL.onNext, if_true, if_false, if_pos, Bool.false_eq_true, DL.put, DL.tyD, List.set_cons_zero, List.set_cons_succ, Bool.not_true, Bool.not_false, DL.forRun, DL.bindT, DL.setAll, DL.items_t, DL.items_l, DL.c_lti, DL.c_lei, DL.c_gti, DL.c_gei, DL.c_eqi, DL.c_nei, DL.wipe, List.map_cons, List.map_nil, DL.fl, reduceCtorEq, false_and, and_false, Nat.reduceEqDiff, DL.noX_ok, DL.items_lD, DL.items_fD, DL.items_tD, DL.mkTup0, DL.mkTup1i, DL.mkTup1t, DL.mkTup2t, DL.mkLst0, DL.mkLst1t, DL.sorted_lD, DL.tuple_lD, DL.len_lD, DL.len_fD, DL.len_tD, Bool.false_and]
    all_goals (refine ⟨[], ?_⟩; simp only [DL.execs, DL.exec, DL.ev, DL.evs, DL.evo, DL.evc, DL.evi, DL.evB_bool, DL.getSh0, DL.getSh_s, DL.getB0, DL.getB0o, DL.getB_s, DL.M.bind_ok, DL.M.bind_ex, DL.M.ofO_some, DL.onNext, if_true, if_false, if_pos, Bool.false_eq_true, DL.put, DL.tyD, List.set_cons_zero, List.set_cons_succ, Bool.not_true, Bool.not_false, DL.forRun, DL.bindT, DL.setAll, DL.items_t, DL.items_l, DL.c_lti, DL.c_lei, DL.c_gti, DL.c_gei, DL.c_eqi, DL.c_nei, DL.wipe, List.map_cons, List.map_nil, DL.fl, reduceCtorEq, false_and, and_false, Nat.reduceEqDiff, DL.noX_ok, DL.items_lD, DL.items_fD, DL.items_tD, DL.mkTup0, DL.mkTup1i, DL.mkTup1t, DL.mkTup2t, DL.mkLst0, DL.mkLst1t, DL.sorted_lD, DL.tuple_lD, DL.len_lD, DL.len_fD, DL.len_tD, binD, g_set_good_is_from, m_is_from_ok, isFrom, goodL])
def goodD (n : Int) : D → Bool
  | .tuple xs => goodL n (-1) xs
  | _ => false
theorem m_set_good_ok (n : Int) (d : D) : m_set_good [.int n, d] = .ok (.bool (goodD n d)) := by
  refine run_ret [.sh (.int n), .sh d, .un, .un] rfl rfl ?_
  cases d
  case tuple k =>
    obtain ⟨r, h⟩ := set_good_for n (.tuple k) k (-1) .un
    simp only [f_set_good, DL.execs, DL.exec, DL.ev, DL.evs, DL.evo, DL.evc, DL.evi, DL.evB_bool, DL.getSh0, DL.getSh_s, DL.getB0, DL.getB0o, DL.getB_s, DL.M.bind_ok, DL.M.bind_ex, DL.M.ofO_some, DL.onNext, if_true, if_false, if_pos, Bool.false_eq_true, DL.put, DL.tyD, List.set_cons_zero, List.set_cons_succ, Bool.not_true, Bool.not_false, DL.forRun, DL.bindT, DL.setAll, DL.items_t, DL.items_l, DL.c_lti, DL.c_lei, DL.c_gti, DL.c_gei, DL.c_eqi, DL.c_nei, DL.wipe, List.map_cons, List.map_nil, DL.fl, reduceCtorEq, false_and, and_false, Nat.reduceEqDiff, DL.noX_ok, DL.items_lD, DL.items_fD, DL.items_tD, DL.mkTup0, DL.mkTup1i, DL.mkTup1t, DL.mkTup2t, DL.mkLst0, DL.mkLst1t, DL.sorted_lD, DL.tuple_lD, DL.len_lD, DL.len_fD, DL.len_tD, goodD] at h ⊢
    rw [h]
    by_cases q : goodL n (-1) k = true
    · simp only [q, DL.execs, DL.exec, DL.ev, DL.evs, DL.evo, DL.evc, DL.evi, DL.evB_bool, DL.getSh0, DL.getSh_s, DL.getB0, DL.getB0o, DL.getB_s, DL.M.bind_ok, DL.M.bind_ex, DL.M.ofO_some, DL.onNext, if_true, if_false, if_pos, Bool.false_eq_true, DL.put, DL.tyD, List.set_cons_zero, List.set_cons_succ, Bool.not_true, Bool.not_false, DL.forRun, DL.bindT, DL.setAll, DL.items_t, DL.items_l, DL.c_lti, DL.c_lei, DL.c_gti, DL.c_gei, DL.c_eqi, DL.c_nei, DL.wipe, List.map_cons, List.map_nil, DL.fl, reduceCtorEq, false_and, and_false, Nat.reduceEqDiff, DL.noX_ok, DL.items_lD, DL.items_fD, DL.items_tD, DL.mkTup0, DL.mkTup1i, DL.mkTup1t, DL.mkTup2t, DL.mkLst0, DL.mkLst1t, DL.sorted_lD, DL.tuple_lD, DL.len_lD, DL.len_fD, DL.len_tD]
    · rw [Bool.not_eq_true] at q
      simp only [q, DL.execs, DL.exec, DL.ev, DL.evs, DL.evo, DL.evc, DL.evi, DL.evB_bool, DL.getSh0, DL.getSh_s, DL.getB0, DL.getB0o, DL.getB_s, DL.M.bind_ok, DL.M.bind_ex, DL.M.ofO_some, DL.onNext, if_true, if_false, if_pos, Bool.false_eq_true, DL.put, DL.tyD, List.set_cons_zero, List.set_cons_succ, Bool.not_true, Bool.not_false, DL.forRun, DL.bindT, DL.setAll, DL.items_t, DL.items_l, DL.c_lti, DL.c_lei, DL.c_gti, DL.c_gei, DL.c_eqi, DL.c_nei, DL.wipe, List.map_cons, List.map_nil, DL.fl, reduceCtorEq, false_and, and_false, Nat.reduceEqDiff, DL.noX_ok, DL.items_lD, DL.items_fD, DL.items_tD, DL.mkTup0, DL.mkTup1i, DL.mkTup1t, DL.mkTup2t, DL.mkLst0, DL.mkLst1t, DL.sorted_lD, DL.tuple_lD, DL.len_lD, DL.len_fD, DL.len_tD]
  all_goals simp only [f_set_good, DL.execs, DL.exec, DL.ev, DL.evs, DL.evo, DL.evc, DL.evi, DL.evB_bool, DL.getSh0, DL.getSh_s, DL.getB0, DL.getB0o, DL.getB_s, DL.M.bind_ok, DL.M.bind_ex, DL.M.ofO_some, DL.onNext, if_true, if_false, if_pos, Bool.false_eq_true, DL.put, DL.tyD, List.set_cons_zero, List.set_cons_succ, Bool.not_true, Bool.not_false, DL.forRun, DL.bindT, DL.setAll, DL.items_t, DL.items_l, DL.c_lti, DL.c_lei, DL.c_gti, DL.c_gei, DL.c_eqi, DL.c_nei, DL.wipe, List.map_cons, List.map_nil, DL.fl, reduceCtorEq, false_and, and_false, Nat.reduceEqDiff, DL.noX_ok, DL.items_lD, DL.items_fD, DL.items_tD, DL.mkTup0, DL.mkTup1i, DL.mkTup1t, DL.mkTup2t, DL.mkLst0, DL.mkLst1t, DL.sorted_lD, DL.tuple_lD, DL.len_lD, DL.len_fD, DL.len_tD, goodD]
/-- a good set's ints -/
def goodS (n : Int) : Int → List Int → Bool
  | _, [] => true
  | last, p :: ps => decide (last + 1 ≤ p) && decide (p ≤ n - 1) && goodS n p ps
theorem goodL_S (n : Int) : ∀ (k : List Int) (last : Int), goodL n last (k.map .int) = goodS n last k
  | [], _ => rfl
  | p :: k, last => by rw [List.map_cons, goodL, goodS, goodL_S n k p]
theorem goodL_inv (n : Int) : ∀ (k : List D) (last : Int), goodL n last k = true → ∃ s : List Int, k = s.map .int ∧ goodS n last s = true
  | [], last, _ => ⟨[], rfl, rfl⟩
  | d :: k, last, h => by
    cases d
    case int p =>
      rw [goodL, Bool.and_eq_true] at h
      obtain ⟨s, e, g⟩ := goodL_inv n k p h.2
      exact ⟨p :: s, by rw [e]; rfl, by rw [goodS, h.1, g]; rfl⟩
    all_goals (simp [goodL] at h)
theorem goodD_tD (n : Int) (k : List Int) : goodD n (tD k) = goodS n (-1) k := goodL_S n k (-1)
theorem goodD_inv {n : Int} {d : D} (h : goodD n d = true) : ∃ s : List Int, d = tD s ∧ goodS n (-1) s = true := by
  cases d <;> first | (cases h; done) | skip
  rename_i xs
  obtain ⟨s, e, g⟩ := goodL_inv n xs (-1) h
  exact ⟨s, by rw [e]; rfl, g⟩

/-- the first flaw from the place i on, behind the set prev -/
def flawGo (n : Int) : Option (List Int) → Nat → List D → Option Nat
  | _, _, [] => none
  | prev, i, d :: ds => match intsOf d with
    | some k => if goodS n (-1) k = true ∧ (prev.all fun q => ltI q k) = true then flawGo n (some k) (i + 1) ds else some i
    | none => some i
where intsOf : D → Option (List Int)
  | .tuple xs => intsD xs
  | _ => none
theorem intsOf_tD (k : List Int) : flawGo.intsOf (tD k) = some k := ints_map k
theorem intsD_inv : ∀ {xs : List D} {k : List Int}, intsD xs = some k → xs = k.map .int
  | [], k, h => by cases h; rfl
  | d :: xs, k, h => by
    cases d <;> first | (cases h; done) | skip
    rename_i i
    rw [intsD, Option.map_eq_some_iff] at h
    obtain ⟨k', h1, rfl⟩ := h
    rw [intsD_inv h1]
    rfl
theorem intsOf_inv {d : D} {k : List Int} (h : flawGo.intsOf d = some k) : d = tD k := by
  cases d <;> first | (cases h; done) | skip
  rw [intsD_inv (xs := _) h]
  rfl
theorem idx_last (p : List D) (q : D) (s : List D) : idxD (.tuple ((p ++ [q]) ++ s)) (.int (((p ++ [q]).length : Nat) - 1)) = .ok q := by
  have e : ((((p ++ [q]).length : Nat) : Int) - 1) = ((p.length : Nat) : Int) := by simp
  rw [e]
  show M.ofO ((ixN _ _).bind fun j => _) = _
  have h1 : ixN ((p ++ [q]) ++ s).length ((p.length : Nat) : Int) = some p.length := by
    unfold ixN
    rw [if_pos (by omega), if_pos (by simp; omega)]
    simp
  rw [h1]
  simp
theorem flaw_for (n : Int) : ∀ (suf pre : List D) (prev : Option (List Int)), (match prev with | none => pre = [] | some q => ∃ p', pre = p' ++ [tD q]) → ∀ (x y : Sl), ∃ r, forRun (.tup [2, 3]) (execs G_set_good (.cons (.ifs (.or (.not (.call ("set_good" : Str) (.cons (.var 0) (.cons (.var 3) .nil)))) (.and (.cmp .gt (.var 2) (.int 0)) (.cmp .le (.var 3) (.idx (.var 1) (.bin .sub (.var 2) (.int 1)))))) (.cons (.ret (.var 2)) .nil) .nil) .nil)) (enumD ((pre.length : Nat) : Int) suf) [.sh (.int n), .sh (.tuple (pre ++ suf)), x, y] =
    .ok (match flawGo n prev pre.length suf with | none => .next r | some i => .ret (.int (i : Nat)))
  | [], pre, prev, hp, x, y => ⟨_, rfl⟩
  | d :: suf, pre, prev, hp, x, y => by
    have next : ∀ k, d = tD k → (pre ++ d :: suf) = (pre ++ [tD k]) ++ suf := fun k e => by rw [e]; simp
    rw [enumD]
    by_cases hg : goodD n d = true
    · obtain ⟨k, rfl, gk⟩ := goodD_inv hg
      obtain ⟨r, ih⟩ := flaw_for n suf (pre ++ [tD k]) (some k) ⟨pre, rfl⟩ (.sh (.int ((pre.length : Nat) : Int))) (.sh (tD k))
      have el : (((pre ++ [tD k]).length : Nat) : Int) = ((pre.length : Nat) : Int) + 1 := by simp
      have en : (pre ++ [tD k]).length = pre.length + 1 := by simp
      rw [el, en, ← next k rfl] at ih
      refine ⟨r, ?_⟩
      simp only [DL.execs, DL.exec, DL.ev, DL.evs, DL.evo, DL.evc, DL.evi, DL.evB_bool, DL.getSh0, DL.getSh_s, DL.getB0, DL.getB0o, DL.getB_s, DL.M.bind_ok, DL.M.bind_ex, DL.M.ofO_some, DL.onNext, if_true, if_false, if_pos, Bool.false_eq_true, DL.put, DL.tyD, List.set_cons_zero, List.set_cons_succ, Bool.not_true, Bool.not_false, DL.forRun, DL.bindT, DL.setAll, DL.items_t, DL.items_l, DL.c_lti, DL.c_lei, DL.c_gti, DL.c_gei, DL.c_eqi, DL.c_nei, DL.wipe, List.map_cons, List.map_nil, DL.fl, reduceCtorEq, false_and, and_false, Nat.reduceEqDiff, DL.noX_ok, DL.items_lD, DL.items_fD, DL.items_tD, DL.mkTup0, DL.mkTup1i, DL.mkTup1t, DL.mkTup2t, DL.mkLst0, DL.mkLst1t, DL.sorted_lD, DL.tuple_lD, DL.len_lD, DL.len_fD, DL.len_tD, binD, g_first_flaw_set_good, m_set_good_ok, hg, flawGo, intsOf_tD, gk]
      cases prev with
      | none =>
        cases (show pre = [] from hp)
        simp only [DL.execs, DL.exec, DL.ev, DL.evs, DL.evo, DL.evc, DL.evi, DL.evB_bool, DL.getSh0, DL.getSh_s, DL.getB0, DL.getB0o, DL.getB_s, DL.M.bind_ok, DL.M.bind_ex, DL.M.ofO_some, DL.onNext, if_true, if_false, if_pos, Bool.false_eq_true, DL.put, DL.tyD, List.set_cons_zero, List.set_cons_succ, Bool.not_true, Bool.not_false, DL.forRun, DL.bindT, DL.setAll, DL.items_t, DL.items_l, DL.c_lti, DL.c_lei, DL.c_gti, DL.c_gei, DL.c_eqi, DL.c_nei, DL.wipe, List.map_cons, List.map_nil, DL.fl, reduceCtorEq, false_and, and_false, Nat.reduceEqDiff, DL.noX_ok, DL.items_lD, DL.items_fD, DL.items_tD, DL.mkTup0, DL.mkTup1i, DL.mkTup1t, DL.mkTup2t, DL.mkLst0, DL.mkLst1t, DL.sorted_lD, DL.tuple_lD, DL.len_lD, DL.len_fD, DL.len_tD, List.length_nil, Int.natCast_zero, Int.lt_irrefl, decide_false, Option.all_none, and_self]
        exact ih
      | some q =>
        obtain ⟨p', rfl⟩ := hp
        have pos : (0 : Int) < (((p' ++ [tD q]).length : Nat) : Int) := by simp
        simp only [DL.execs, DL.exec, DL.ev, DL.evs, DL.evo, DL.evc, DL.evi, DL.evB_bool, DL.getSh0, DL.getSh_s, DL.getB0, DL.getB0o, DL.getB_s, DL.M.bind_ok, DL.M.bind_ex, DL.M.ofO_some, DL.onNext, if_true, if_false, if_pos, Bool.false_eq_true, DL.put, DL.tyD, List.set_cons_zero, List.set_cons_succ, Bool.not_true, Bool.not_false, DL.forRun, DL.bindT, DL.setAll, DL.items_t, DL.items_l, DL.c_lti, DL.c_lei, DL.c_gti, DL.c_gei, DL.c_eqi, DL.c_nei, DL.wipe, List.map_cons, List.map_nil, DL.fl, reduceCtorEq, false_and, and_false, Nat.reduceEqDiff, DL.noX_ok, DL.items_lD, DL.items_fD, DL.items_tD, DL.mkTup0, DL.mkTup1i, DL.mkTup1t, DL.mkTup2t, DL.mkLst0, DL.mkLst1t, DL.sorted_lD, DL.tuple_lD, DL.len_lD, DL.len_fD, DL.len_tD, pos, decide_true, idx_last, c_let, Option.all_some, true_and]
        by_cases hlt : ltI q k = true
        · simp only [hlt, DL.execs, DL.exec, DL.ev, DL.evs, DL.evo, DL.evc, DL.evi, DL.evB_bool, DL.getSh0, DL.getSh_s, DL.getB0, DL.getB0o, DL.getB_s, DL.M.bind_ok, DL.M.bind_ex, DL.M.ofO_some, DL.onNext, if_true, if_false, if_pos, Bool.false_eq_true, DL.put, DL.tyD, List.set_cons_zero, List.set_cons_succ, Bool.not_true, Bool.not_false, DL.forRun, DL.bindT, DL.setAll, DL.items_t, DL.items_l, DL.c_lti, DL.c_lei, DL.c_gti, DL.c_gei, DL.c_eqi, DL.c_nei, DL.wipe, List.map_cons, List.map_nil, DL.fl, reduceCtorEq, false_and, and_false, Nat.reduceEqDiff, DL.noX_ok, DL.items_lD, DL.items_fD, DL.items_tD, DL.mkTup0, DL.mkTup1i, DL.mkTup1t, DL.mkTup2t, DL.mkLst0, DL.mkLst1t, DL.sorted_lD, DL.tuple_lD, DL.len_lD, DL.len_fD, DL.len_tD]
          exact ih
        · rw [Bool.not_eq_true] at hlt
          simp only [hlt, DL.execs, DL.exec, DL.ev, DL.evs, DL.evo, DL.evc, DL.evi, DL.evB_bool, DL.getSh0, DL.getSh_s, DL.getB0, DL.getB0o, DL.getB_s, DL.M.bind_ok, DL.M.bind_ex, DL.M.ofO_some, DL.onNext, if_true, if_false, if_pos, Bool.false_eq_true, DL.put, DL.tyD, List.set_cons_zero, List.set_cons_succ, Bool.not_true, Bool.not_false, DL.forRun, DL.bindT, DL.setAll, DL.items_t, DL.items_l, DL.c_lti, DL.c_lei, DL.c_gti, DL.c_gei, DL.c_eqi, DL.c_nei, DL.wipe, List.map_cons, List.map_nil, DL.fl, reduceCtorEq, false_and, and_false, Nat.reduceEqDiff, DL.noX_ok, DL.items_lD, DL.items_fD, DL.items_tD, DL.mkTup0, DL.mkTup1i, DL.mkTup1t, DL.mkTup2t, DL.mkLst0, DL.mkLst1t, DL.sorted_lD, DL.tuple_lD, DL.len_lD, DL.len_fD, DL.len_tD]
    · refine ⟨[], ?_⟩
      rw [Bool.not_eq_true] at hg
      have fl : flawGo n prev pre.length (d :: suf) = some pre.length := by
        unfold flawGo
        cases e : flawGo.intsOf d with
        | none => rfl
        | some k =>
          have ed := intsOf_inv e
          rw [ed, goodD_tD] at hg
          simp only [hg, Bool.false_eq_true, false_and, if_false]
      simp only [DL.execs, DL.exec, DL.ev, DL.evs, DL.evo, DL.evc, DL.evi, DL.evB_bool, DL.getSh0, DL.getSh_s, DL.getB0, DL.getB0o, DL.getB_s, DL.M.bind_ok, DL.M.bind_ex, DL.M.ofO_some, DL.onNext, if_true, if_false, if_pos, Bool.false_eq_true, DL.put, DL.tyD, List.set_cons_zero, List.set_cons_succ, Bool.not_true, Bool.not_false, DL.forRun, DL.bindT, DL.setAll, DL.items_t, DL.items_l, DL.c_lti, DL.c_lei, DL.c_gti, DL.c_gei, DL.c_eqi, DL.c_nei, DL.wipe, List.map_cons, List.map_nil, DL.fl, reduceCtorEq, false_and, and_false, Nat.reduceEqDiff, DL.noX_ok, DL.items_lD, DL.items_fD, DL.items_tD, DL.mkTup0, DL.mkTup1i, DL.mkTup1t, DL.mkTup2t, DL.mkLst0, DL.mkLst1t, DL.sorted_lD, DL.tuple_lD, DL.len_lD, DL.len_fD, DL.len_tD, g_first_flaw_set_good, m_set_good_ok, hg, fl]
def flawD (n : Int) : D → D
  | .tuple xs => match flawGo n none 0 xs with
    | none => .none
    | some i => .int (i : Nat)
  | _ => .int (-1)
theorem m_first_flaw_ok (n : Int) (d : D) : m_first_flaw [.int n, d] = .ok (flawD n d) := by
  refine run_ret [.sh (.int n), .sh d, .un, .un] rfl rfl ?_
  cases d
  case tuple xs =>
    obtain ⟨r, h⟩ := flaw_for n xs [] none rfl .un .un
    simp only [List.length_nil, Int.natCast_zero, List.nil_append] at h
    simp only [f_first_flaw, DL.execs, DL.exec, DL.ev, DL.evs, DL.evo, DL.evc, DL.evi, DL.evB_bool, DL.getSh0, DL.getSh_s, DL.getB0, DL.getB0o, DL.getB_s, DL.M.bind_ok, DL.M.bind_ex, DL.M.ofO_some, DL.onNext, if_true, if_false, if_pos, Bool.false_eq_true, DL.put, DL.tyD, List.set_cons_zero, List.set_cons_succ, Bool.not_true, Bool.not_false, DL.forRun, DL.bindT, DL.setAll, DL.items_t, DL.items_l, DL.c_lti, DL.c_lei, DL.c_gti, DL.c_gei, DL.c_eqi, DL.c_nei, DL.wipe, List.map_cons, List.map_nil, DL.fl, reduceCtorEq, false_and, and_false, Nat.reduceEqDiff, DL.noX_ok, DL.items_lD, DL.items_fD, DL.items_tD, DL.mkTup0, DL.mkTup1i, DL.mkTup1t, DL.mkTup2t, DL.mkLst0, DL.mkLst1t, DL.sorted_lD, DL.tuple_lD, DL.len_lD, DL.len_fD, DL.len_tD] at h ⊢
    rw [h]
    unfold flawD
    cases e : flawGo n none 0 xs with
    | none => simp only [e, DL.execs, DL.exec, DL.ev, DL.evs, DL.evo, DL.evc, DL.evi, DL.evB_bool, DL.getSh0, DL.getSh_s, DL.getB0, DL.getB0o, DL.getB_s, DL.M.bind_ok, DL.M.bind_ex, DL.M.ofO_some, DL.onNext, if_true, if_false, if_pos, Bool.false_eq_true, DL.put, DL.tyD, List.set_cons_zero, List.set_cons_succ, Bool.not_true, Bool.not_false, DL.forRun, DL.bindT, DL.setAll, DL.items_t, DL.items_l, DL.c_lti, DL.c_lei, DL.c_gti, DL.c_gei, DL.c_eqi, DL.c_nei, DL.wipe, List.map_cons, List.map_nil, DL.fl, reduceCtorEq, false_and, and_false, Nat.reduceEqDiff, DL.noX_ok, DL.items_lD, DL.items_fD, DL.items_tD, DL.mkTup0, DL.mkTup1i, DL.mkTup1t, DL.mkTup2t, DL.mkLst0, DL.mkLst1t, DL.sorted_lD, DL.tuple_lD, DL.len_lD, DL.len_fD, DL.len_tD]
    | some i => simp only [e, DL.execs, DL.exec, DL.ev, DL.evs, DL.evo, DL.evc, DL.evi, DL.evB_bool, DL.getSh0, DL.getSh_s, DL.getB0, DL.getB0o, DL.getB_s, DL.M.bind_ok, DL.M.bind_ex, DL.M.ofO_some, DL.onNext, if_true, if_false, if_pos, Bool.false_eq_true, DL.put, DL.tyD, List.set_cons_zero, List.set_cons_succ, Bool.not_true, Bool.not_false, DL.forRun, DL.bindT, DL.setAll, DL.items_t, DL.items_l, DL.c_lti, DL.c_lei, DL.c_gti, DL.c_gei, DL.c_eqi, DL.c_nei, DL.wipe, List.map_cons, List.map_nil, DL.fl, reduceCtorEq, false_and, and_false, Nat.reduceEqDiff, DL.noX_ok, DL.items_lD, DL.items_fD, DL.items_tD, DL.mkTup0, DL.mkTup1i, DL.mkTup1t, DL.mkTup2t, DL.mkLst0, DL.mkLst1t, DL.sorted_lD, DL.tuple_lD, DL.len_lD, DL.len_fD, DL.len_tD]
  all_goals simp only [f_first_flaw, DL.execs, DL.exec, DL.ev, DL.evs, DL.evo, DL.evc, DL.evi, DL.evB_bool, DL.getSh0, DL.getSh_s, DL.getB0, DL.getB0o, DL.getB_s, DL.M.bind_ok, DL.M.bind_ex, DL.M.ofO_some, DL.onNext, if_true, if_false, if_pos, Bool.false_eq_true, DL.put, DL.tyD, List.set_cons_zero, List.set_cons_succ, Bool.not_true, Bool.not_false, DL.forRun, DL.bindT, DL.setAll, DL.items_t, DL.items_l, DL.c_lti, DL.c_lei, DL.c_gti, DL.c_gei, DL.c_eqi, DL.c_nei, DL.wipe, List.map_cons, List.map_nil, DL.fl, reduceCtorEq, false_and, and_false, Nat.reduceEqDiff, DL.noX_ok, DL.items_lD, DL.items_fD, DL.items_tD, DL.mkTup0, DL.mkTup1i, DL.mkTup1t, DL.mkTup2t, DL.mkLst0, DL.mkLst1t, DL.sorted_lD, DL.tuple_lD, DL.len_lD, DL.len_fD, DL.len_tD, flawD]

theorem m_need_ground_ok (d : D) : m_need_ground [d] = if isFrom 1 8 d = true then .ok .none else .ex "NoGround" [] := by
  by_cases h : isFrom 1 8 d = true
  · rw [if_pos h]
    refine run_end (r := [.sh d]) [.sh d] rfl rfl ?_
    simp only [f_need_ground, DL.execs, DL.exec, DL.ev, DL.evs, DL.evo, DL.evc, DL.evi, DL.evB_bool, DL.getSh0, DL.getSh_s, DL.getB0, DL.getB0o, DL.getB_s, DL.M.bind_ok, DL.M.bind_ex, DL.M.ofO_some, DL.onNext, if_true, if_false, if_pos, Bool.false_eq_true, DL.put, DL.tyD, List.set_cons_zero, List.set_cons_succ, Bool.not_true, Bool.not_false, DL.forRun, DL.bindT, DL.setAll, DL.items_t, DL.items_l, DL.c_lti, DL.c_lei, DL.c_gti, DL.c_gei, DL.c_eqi, DL.c_nei, DL.wipe, List.map_cons, List.map_nil, DL.fl, reduceCtorEq, false_and, and_false, Nat.reduceEqDiff, DL.noX_ok, DL.items_lD, DL.items_fD, DL.items_tD, DL.mkTup0, DL.mkTup1i, DL.mkTup1t, DL.mkTup2t, DL.mkLst0, DL.mkLst1t, DL.sorted_lD, DL.tuple_lD, DL.len_lD, DL.len_fD, DL.len_tD, g_need_ground_ground_good, m_ground_good_ok, h]
  · rw [if_neg h]
    rw [Bool.not_eq_true] at h
    refine run_ex [.sh d] rfl rfl ?_
    simp only [f_need_ground, DL.execs, DL.exec, DL.ev, DL.evs, DL.evo, DL.evc, DL.evi, DL.evB_bool, DL.getSh0, DL.getSh_s, DL.getB0, DL.getB0o, DL.getB_s, DL.M.bind_ok, DL.M.bind_ex, DL.M.ofO_some, DL.onNext, if_true, if_false, if_pos, Bool.false_eq_true, DL.put, DL.tyD, List.set_cons_zero, List.set_cons_succ, Bool.not_true, Bool.not_false, DL.forRun, DL.bindT, DL.setAll, DL.items_t, DL.items_l, DL.c_lti, DL.c_lei, DL.c_gti, DL.c_gei, DL.c_eqi, DL.c_nei, DL.wipe, List.map_cons, List.map_nil, DL.fl, reduceCtorEq, false_and, and_false, Nat.reduceEqDiff, DL.noX_ok, DL.items_lD, DL.items_fD, DL.items_tD, DL.mkTup0, DL.mkTup1i, DL.mkTup1t, DL.mkTup2t, DL.mkLst0, DL.mkLst1t, DL.sorted_lD, DL.tuple_lD, DL.len_lD, DL.len_fD, DL.len_tD, g_need_ground_ground_good, m_ground_good_ok, h]
    rfl

theorem m_need_family_ok (n : Int) (d : D) : m_need_family [.int n, d] = match flawD n d with
    | .none => .ok .none
    | x => .ex "NoFamily" [("at", x)] := by
  have hf : ∀ x, flawD n d = x → (x = .none ∨ ∃ i, x = .int i) := fun x e => by
    subst e
    unfold flawD
    cases d <;> first | exact .inr ⟨_, rfl⟩ | skip
    rename_i xs
    cases e : flawGo n none 0 xs with
    | none => simp only [e]; first | exact .inl trivial | exact .inl rfl
    | some i => simp only [e]; exact .inr ⟨_, rfl⟩
  rcases hf _ rfl with h | ⟨i, h⟩
  · rw [h]
    refine run_end (r := [.sh (.int n), .sh d, .sh .none]) [.sh (.int n), .sh d, .un] rfl rfl ?_
    simp only [f_need_family, DL.execs, DL.exec, DL.ev, DL.evs, DL.evo, DL.evc, DL.evi, DL.evB_bool, DL.getSh0, DL.getSh_s, DL.getB0, DL.getB0o, DL.getB_s, DL.M.bind_ok, DL.M.bind_ex, DL.M.ofO_some, DL.onNext, if_true, if_false, if_pos, Bool.false_eq_true, DL.put, DL.tyD, List.set_cons_zero, List.set_cons_succ, Bool.not_true, Bool.not_false, DL.forRun, DL.bindT, DL.setAll, DL.items_t, DL.items_l, DL.c_lti, DL.c_lei, DL.c_gti, DL.c_gei, DL.c_eqi, DL.c_nei, DL.wipe, List.map_cons, List.map_nil, DL.fl, reduceCtorEq, false_and, and_false, Nat.reduceEqDiff, DL.noX_ok, DL.items_lD, DL.items_fD, DL.items_tD, DL.mkTup0, DL.mkTup1i, DL.mkTup1t, DL.mkTup2t, DL.mkLst0, DL.mkLst1t, DL.sorted_lD, DL.tuple_lD, DL.len_lD, DL.len_fD, DL.len_tD, g_need_family_first_flaw, m_first_flaw_ok, h]
    rfl
  · rw [h]
    refine run_ex [.sh (.int n), .sh d, .un] rfl rfl ?_
    simp only [f_need_family, DL.execs, DL.exec, DL.ev, DL.evs, DL.evo, DL.evc, DL.evi, DL.evB_bool, DL.getSh0, DL.getSh_s, DL.getB0, DL.getB0o, DL.getB_s, DL.M.bind_ok, DL.M.bind_ex, DL.M.ofO_some, DL.onNext, if_true, if_false, if_pos, Bool.false_eq_true, DL.put, DL.tyD, List.set_cons_zero, List.set_cons_succ, Bool.not_true, Bool.not_false, DL.forRun, DL.bindT, DL.setAll, DL.items_t, DL.items_l, DL.c_lti, DL.c_lei, DL.c_gti, DL.c_gei, DL.c_eqi, DL.c_nei, DL.wipe, List.map_cons, List.map_nil, DL.fl, reduceCtorEq, false_and, and_false, Nat.reduceEqDiff, DL.noX_ok, DL.items_lD, DL.items_fD, DL.items_tD, DL.mkTup0, DL.mkTup1i, DL.mkTup1t, DL.mkTup2t, DL.mkLst0, DL.mkLst1t, DL.sorted_lD, DL.tuple_lD, DL.len_lD, DL.len_fD, DL.len_tD, g_need_family_first_flaw, m_first_flaw_ok, h]
    rfl

/-- a good family of sets -/
def goodF (n : Int) (F : List (List Int)) : Prop := (∀ k ∈ F, goodS n (-1) k = true) ∧ F.Pairwise fun a b => ltI a b = true
theorem flaw_good (n : Int) : ∀ (F : List (List Int)) (prev : Option (List Int)) (i : Nat), goodF n F → (∀ q, prev = some q → ∀ k ∈ F, ltI q k = true) → flawGo n prev i (F.map tD) = none
  | [], _, _, _, _ => rfl
  | k :: F, prev, i, h, hp => by
    obtain ⟨h1, h2⟩ := h
    rw [List.pairwise_cons] at h2
    rw [List.map_cons]
    unfold flawGo
    rw [intsOf_tD]
    have hq : (prev.all fun q => ltI q k) = true := by
      cases prev with
      | none => rfl
      | some q => exact hp q rfl k List.mem_cons_self
    simp only [h1 k List.mem_cons_self, hq, and_self, if_true]
    exact flaw_good n F (some k) (i + 1) ⟨fun x hx => h1 x (List.mem_cons_of_mem _ hx), h2.2⟩ fun q e x hx => by cases e; exact h2.1 x hx
theorem flawD_good {n : Int} {F : List (List Int)} (h : goodF n F) : flawD n (fD F) = .none := by
  unfold flawD fD
  simp only [flaw_good n F none 0 h fun q e => by cases e]

def sub (a b : List Int) : Bool := a.all fun i => decide (i ∈ b)
def meets (a b : List Int) : Bool := a.any fun i => decide (i ∈ b)

/-- all sets of the first so many points, as they come -/
def setsN : Nat → List (List Int)
  | 0 => [[]]
  | p + 1 => setsN p ++ (setsN p).map (· ++ [(p : Int)])
theorem setsN_len : ∀ p, (setsN p).length = 2 ^ p
  | 0 => rfl
  | p + 1 => by rw [setsN, List.length_append, List.length_map, setsN_len p, Nat.pow_succ]; omega
theorem setsN_short : ∀ (p : Nat) (k : List Int), k ∈ setsN p → k.length ≤ p
  | 0, k, h => by
    have : k = [] := by simpa [setsN] using h
    rw [this]; exact Nat.le_refl _
  | p + 1, k, h => by
    rw [setsN, List.mem_append, List.mem_map] at h
    rcases h with h | ⟨k', h, rfl⟩
    · have := setsN_short p k h; omega
    · have := setsN_short p k' h
      rw [List.length_append, List.length_singleton]; omega
theorem pow8 {p : Nat} (h : p ≤ 8) : 2 ^ p ≤ 256 := Nat.pow_le_pow_right (by omega) h
theorem filter_true {α : Type} (l : List α) : l.filter (fun _ => true) = l := by simp

theorem sortI_len (l : List (List Int)) : (sortI l).length = l.length := (sortI_perm l).length_eq
theorem line256 {n : Nat} (h : n ≤ 1000000) : n ≤ line := Nat.le_trans h (by decide)

/-! the sets of a ground are good, once each, in their order -/
theorem goodS_mono {p n : Int} (h : p ≤ n) : ∀ (k : List Int) (last : Int), goodS p last k = true → goodS n last k = true
  | [], _, _ => rfl
  | x :: k, last, g => by
    simp only [goodS, Bool.and_eq_true, decide_eq_true_eq] at g ⊢
    exact ⟨⟨g.1.1, by omega⟩, goodS_mono h k x g.2⟩
theorem goodS_snoc {p : Int} : ∀ (k : List Int) (last : Int), last + 1 ≤ p → goodS p last k = true → goodS (p + 1) last (k ++ [p]) = true
  | [], last, h, _ => by simp only [List.nil_append, goodS, Bool.and_eq_true, decide_eq_true_eq]; exact ⟨⟨h, by omega⟩, trivial⟩
  | x :: k, last, h, g => by
    simp only [List.cons_append, goodS, Bool.and_eq_true, decide_eq_true_eq] at g ⊢
    exact ⟨⟨g.1.1, by omega⟩, goodS_snoc k x (by omega) g.2⟩
theorem setsN_good : ∀ (p : Nat) (k : List Int), k ∈ setsN p → goodS (p : Int) (-1) k = true
  | 0, k, h => by
    have : k = [] := by simpa [setsN] using h
    rw [this]; rfl
  | p + 1, k, h => by
    have e : ((p + 1 : Nat) : Int) = (p : Int) + 1 := by push_cast; rfl
    rw [e]
    rw [setsN, List.mem_append, List.mem_map] at h
    rcases h with h | ⟨k', h, rfl⟩
    · exact goodS_mono (by omega) k _ (setsN_good p k h)
    · exact goodS_snoc k' (-1) (by omega) (setsN_good p k' h)
theorem goodS_lt {p : Int} : ∀ (k : List Int) (last : Int), goodS p last k = true → ∀ x ∈ k, x < p
  | [], _, _, x, hx => by cases hx
  | y :: k, last, g, x, hx => by
    simp only [goodS, Bool.and_eq_true, decide_eq_true_eq] at g
    rcases List.mem_cons.mp hx with e | e
    · omega
    · exact goodS_lt k y g.2 x e
theorem setsN_nodup : ∀ (p : Nat), (setsN p).Nodup
  | 0 => by simp [setsN]
  | p + 1 => by
    rw [setsN, List.nodup_append]
    refine ⟨setsN_nodup p, ?_, fun a ha b hb e => ?_⟩
    · exact List.Pairwise.map _ (fun a b hab e => hab (List.append_cancel_right e)) (setsN_nodup p)
    · obtain ⟨k, _, rfl⟩ := List.mem_map.mp hb
      have := goodS_lt a (-1) (setsN_good p a ha) (p : Int) (by rw [e]; simp)
      omega
theorem nil_setsN : ∀ (p : Nat), [] ∈ setsN p
  | 0 => List.mem_cons_self
  | p + 1 => by rw [setsN, List.mem_append]; exact .inl (nil_setsN p)
def setsS (n : Nat) : List (List Int) := sortI (setsN n)
theorem mem_setsS {n : Nat} {k : List Int} : k ∈ setsS n ↔ k ∈ setsN n := (sortI_perm _).mem_iff
theorem strict_of {l : List (List Int)} (h : l.Pairwise fun a b => leI a b = true) (n : l.Nodup) : l.Pairwise fun a b => ltI a b = true := by
  refine (h.and n).imp fun {a b} ⟨h1, h2⟩ => ?_
  unfold leI at h1
  rw [Bool.not_eq_true'] at h1
  rcases ltI_total h1 with z | z
  · exact absurd z.symm h2
  · exact z
theorem setsS_strict (n : Nat) : (setsS n).Pairwise fun a b => ltI a b = true := strict_of (sortI_sorted _) ((sortI_perm _).nodup_iff.mpr (setsN_nodup n))
theorem sub_good {n : Nat} {F : List (List Int)} (h : ∀ k ∈ F, k ∈ setsS n) (s : F.Pairwise fun a b => ltI a b = true) : goodF (n : Int) F := ⟨fun k hk => setsN_good n k (mem_setsS.mp (h k hk)), s⟩
theorem strict_nodup {l : List (List Int)} (h : l.Pairwise fun a b => ltI a b = true) : l.Nodup := h.imp fun {a b} h e => by subst e; rw [ltI_irrefl] at h; cases h
theorem sset_strict (F : List (List Int)) : (sortI (dd F)).Pairwise fun a b => ltI a b = true := strict_of (sortI_sorted _) ((sortI_perm _).nodup_iff.mpr (nodup_dd F))
theorem mem_sset {F : List (List Int)} {k : List Int} : k ∈ sortI (dd F) ↔ k ∈ F := (sortI_perm _).mem_iff.trans mem_dd

theorem law_sets_for (n0 : D) : ∀ (m p : Nat) (x : Sl), p + m ≤ 8 → ∃ y, forRun (.nm 2) (execs G__law_stir (.cons (.asg 1 false (.bin .add (.var 1) (.lc (.bin .add (.var 3) (.tup (.cons (.var 2) .nil))) (.nm 3) (.seq (.var 1)) .no [(("_law_one" : Str), 3)]))) .nil)) (rng (p : Int) m) [.sh n0, .sh (lD (setsN p)), x, .un] =
    .ok (.next [.sh n0, .sh (lD (setsN (p + m))), y, .un])
  | 0, p, x, h => ⟨_, rfl⟩
  | m + 1, p, x, h => by
    obtain ⟨y, ih⟩ := law_sets_for n0 m (p + 1) (.sh (.int (p : Int))) (by omega)
    refine ⟨y, ?_⟩
    have hl := setsN_len p
    have hp := pow8 (p := p) (by omega)
    have e1 : ((p + 1 : Nat) : Int) = (p : Int) + 1 := by push_cast; rfl
    have e2 : p + 1 + m = p + (m + 1) := by omega
    rw [e1, e2, setsN] at ih
    rw [rng]
    simp only [DL.execs, DL.exec, DL.ev, DL.evs, DL.evo, DL.evc, DL.evi, DL.evB_bool, DL.getSh0, DL.getSh_s, DL.getB0, DL.getB0o, DL.getB_s, DL.M.bind_ok, DL.M.bind_ex, DL.M.ofO_some, DL.onNext, if_true, if_false, if_pos, Bool.false_eq_true, DL.put, DL.tyD, List.set_cons_zero, List.set_cons_succ, Bool.not_true, Bool.not_false, DL.forRun, DL.bindT, DL.setAll, DL.items_t, DL.items_l, DL.c_lti, DL.c_lei, DL.c_gti, DL.c_gei, DL.c_eqi, DL.c_nei, DL.wipe, List.map_cons, List.map_nil, DL.fl, reduceCtorEq, false_and, and_false, Nat.reduceEqDiff, DL.noX_ok, DL.items_lD, DL.items_fD, DL.items_tD, DL.mkTup0, DL.mkTup1i, DL.mkTup1t, DL.mkTup2t, DL.mkLst0, DL.mkLst1t, DL.sorted_lD, DL.tuple_lD, DL.len_lD, DL.len_fD, DL.len_tD]
    rw [lc_map (f := tD) (p := fun _ => true) (g := fun k => tD (k ++ [(p : Int)])) fun k hk => ⟨_, rfl, rfl, fun _ => by
      have := setsN_short p k hk
      simp only [DL.execs, DL.exec, DL.ev, DL.evs, DL.evo, DL.evc, DL.evi, DL.evB_bool, DL.getSh0, DL.getSh_s, DL.getB0, DL.getB0o, DL.getB_s, DL.M.bind_ok, DL.M.bind_ex, DL.M.ofO_some, DL.onNext, if_true, if_false, if_pos, Bool.false_eq_true, DL.put, DL.tyD, List.set_cons_zero, List.set_cons_succ, Bool.not_true, Bool.not_false, DL.forRun, DL.bindT, DL.setAll, DL.items_t, DL.items_l, DL.c_lti, DL.c_lei, DL.c_gti, DL.c_gei, DL.c_eqi, DL.c_nei, DL.wipe, List.map_cons, List.map_nil, DL.fl, reduceCtorEq, false_and, and_false, Nat.reduceEqDiff, DL.noX_ok, DL.items_lD, DL.items_fD, DL.items_tD, DL.mkTup0, DL.mkTup1i, DL.mkTup1t, DL.mkTup2t, DL.mkLst0, DL.mkLst1t, DL.sorted_lD, DL.tuple_lD, DL.len_lD, DL.len_fD, DL.len_tD]
      exact add_tD (line256 (by simp; omega))⟩]
    rw [filter_true]
    simp only [DL.execs, DL.exec, DL.ev, DL.evs, DL.evo, DL.evc, DL.evi, DL.evB_bool, DL.getSh0, DL.getSh_s, DL.getB0, DL.getB0o, DL.getB_s, DL.M.bind_ok, DL.M.bind_ex, DL.M.ofO_some, DL.onNext, if_true, if_false, if_pos, Bool.false_eq_true, DL.put, DL.tyD, List.set_cons_zero, List.set_cons_succ, Bool.not_true, Bool.not_false, DL.forRun, DL.bindT, DL.setAll, DL.items_t, DL.items_l, DL.c_lti, DL.c_lei, DL.c_gti, DL.c_gei, DL.c_eqi, DL.c_nei, DL.wipe, List.map_cons, List.map_nil, DL.fl, reduceCtorEq, false_and, and_false, Nat.reduceEqDiff, DL.noX_ok, DL.items_lD, DL.items_fD, DL.items_tD, DL.mkTup0, DL.mkTup1i, DL.mkTup1t, DL.mkTup2t, DL.mkLst0, DL.mkLst1t, DL.sorted_lD, DL.tuple_lD, DL.len_lD, DL.len_fD, DL.len_tD]
    rw [mkLst_map (line256 (by omega))]
    simp only [DL.execs, DL.exec, DL.ev, DL.evs, DL.evo, DL.evc, DL.evi, DL.evB_bool, DL.getSh0, DL.getSh_s, DL.getB0, DL.getB0o, DL.getB_s, DL.M.bind_ok, DL.M.bind_ex, DL.M.ofO_some, DL.onNext, if_true, if_false, if_pos, Bool.false_eq_true, DL.put, DL.tyD, List.set_cons_zero, List.set_cons_succ, Bool.not_true, Bool.not_false, DL.forRun, DL.bindT, DL.setAll, DL.items_t, DL.items_l, DL.c_lti, DL.c_lei, DL.c_gti, DL.c_gei, DL.c_eqi, DL.c_nei, DL.wipe, List.map_cons, List.map_nil, DL.fl, reduceCtorEq, false_and, and_false, Nat.reduceEqDiff, DL.noX_ok, DL.items_lD, DL.items_fD, DL.items_tD, DL.mkTup0, DL.mkTup1i, DL.mkTup1t, DL.mkTup2t, DL.mkLst0, DL.mkLst1t, DL.sorted_lD, DL.tuple_lD, DL.len_lD, DL.len_fD, DL.len_tD]
    rw [add_lD (line256 (by rw [List.length_map, hl]; omega))]
    simp only [DL.execs, DL.exec, DL.ev, DL.evs, DL.evo, DL.evc, DL.evi, DL.evB_bool, DL.getSh0, DL.getSh_s, DL.getB0, DL.getB0o, DL.getB_s, DL.M.bind_ok, DL.M.bind_ex, DL.M.ofO_some, DL.onNext, if_true, if_false, if_pos, Bool.false_eq_true, DL.put, DL.tyD, List.set_cons_zero, List.set_cons_succ, Bool.not_true, Bool.not_false, DL.forRun, DL.bindT, DL.setAll, DL.items_t, DL.items_l, DL.c_lti, DL.c_lei, DL.c_gti, DL.c_gei, DL.c_eqi, DL.c_nei, DL.wipe, List.map_cons, List.map_nil, DL.fl, reduceCtorEq, false_and, and_false, Nat.reduceEqDiff, DL.noX_ok, DL.items_lD, DL.items_fD, DL.items_tD, DL.mkTup0, DL.mkTup1i, DL.mkTup1t, DL.mkTup2t, DL.mkLst0, DL.mkLst1t, DL.sorted_lD, DL.tuple_lD, DL.len_lD, DL.len_fD, DL.len_tD]
    exact ih
theorem m_law_sets_ok {n : Nat} (h : n ≤ 8) : m__law_sets [.int (n : Int)] = .ok (lD (setsS n)) := by
  refine run_ret [.sh (.int (n : Int)), .un, .un, .un] rfl rfl ?_
  obtain ⟨y, hf⟩ := law_sets_for (.int (n : Int)) n 0 .un (by omega)
  have hr : inR (n : Int) = true := inR_ok (by omega)
  simp only [Nat.zero_add, Int.natCast_zero] at hf
  simp only [f__law_sets, DL.execs, DL.exec, DL.ev, DL.evs, DL.evo, DL.evc, DL.evi, DL.evB_bool, DL.getSh0, DL.getSh_s, DL.getB0, DL.getB0o, DL.getB_s, DL.M.bind_ok, DL.M.bind_ex, DL.M.ofO_some, DL.onNext, if_true, if_false, if_pos, Bool.false_eq_true, DL.put, DL.tyD, List.set_cons_zero, List.set_cons_succ, Bool.not_true, Bool.not_false, DL.forRun, DL.bindT, DL.setAll, DL.items_t, DL.items_l, DL.c_lti, DL.c_lei, DL.c_gti, DL.c_gei, DL.c_eqi, DL.c_nei, DL.wipe, List.map_cons, List.map_nil, DL.fl, reduceCtorEq, false_and, and_false, Nat.reduceEqDiff, DL.noX_ok, DL.items_lD, DL.items_fD, DL.items_tD, DL.mkTup0, DL.mkTup1i, DL.mkTup1t, DL.mkTup2t, DL.mkLst0, DL.mkLst1t, DL.sorted_lD, DL.tuple_lD, DL.len_lD, DL.len_fD, DL.len_tD, hr, Int.toNat_natCast, setsN] at hf ⊢
  rw [hf]
  simp only [DL.execs, DL.exec, DL.ev, DL.evs, DL.evo, DL.evc, DL.evi, DL.evB_bool, DL.getSh0, DL.getSh_s, DL.getB0, DL.getB0o, DL.getB_s, DL.M.bind_ok, DL.M.bind_ex, DL.M.ofO_some, DL.onNext, if_true, if_false, if_pos, Bool.false_eq_true, DL.put, DL.tyD, List.set_cons_zero, List.set_cons_succ, Bool.not_true, Bool.not_false, DL.forRun, DL.bindT, DL.setAll, DL.items_t, DL.items_l, DL.c_lti, DL.c_lei, DL.c_gti, DL.c_gei, DL.c_eqi, DL.c_nei, DL.wipe, List.map_cons, List.map_nil, DL.fl, reduceCtorEq, false_and, and_false, Nat.reduceEqDiff, DL.noX_ok, DL.items_lD, DL.items_fD, DL.items_tD, DL.mkTup0, DL.mkTup1i, DL.mkTup1t, DL.mkTup2t, DL.mkLst0, DL.mkLst1t, DL.sorted_lD, DL.tuple_lD, DL.len_lD, DL.len_fD, DL.len_tD, setsS]

def stir (c k : Int) : Int := (((((((c.fmod 2147483647 + 977 * k + 1) * 48271).fmod 2147483647) * (((c.fmod 2147483647 + 977 * k + 1) * 48271).fmod 2147483647)).fmod 2147483629) + 40692 * (k + 3)) * 69621).fmod 2147483647 |>.fdiv 8
theorem fmod_bd (a : Int) {b : Int} (h : 0 < b) : 0 ≤ a.fmod b ∧ a.fmod b < b := ⟨Int.fmod_nonneg_of_pos a h, Int.fmod_lt_of_pos a h⟩
theorem mul_l {i j : Int} (h : small i = true) : binD .mul (.int i) (.int j) = .ok (.int (i * j)) := if_pos (.inl h)
theorem mul_r {i j : Int} (h : small j = true) : binD .mul (.int i) (.int j) = .ok (.int (i * j)) := if_pos (.inr h)
theorem md_ok {i j : Int} (h : j ≠ 0) : binD .md (.int i) (.int j) = .ok (.int (i.fmod j)) := if_pos h
theorem fdiv_ok {i j : Int} (h : j ≠ 0 ∧ j.natAbs < 1073741824) : binD .fdiv (.int i) (.int j) = .ok (.int (i.fdiv j)) := if_pos h
theorem add_i (i j : Int) : binD .add (.int i) (.int j) = .ok (.int (i + j)) := rfl
theorem m_law_stir_ok (c k : Int) : m__law_stir [.int c, .int k] = .ok (.int (stir c k)) := by
  refine run_ret [.sh (.int c), .sh (.int k), .un] rfl rfl ?_
  have s1 : small 977 = true := by decide +kernel
  have s2 : small 48271 = true := by decide +kernel
  have s3 : small 40692 = true := by decide +kernel
  have s4 : small 69621 = true := by decide +kernel
  have n1 : (2147483647 : Int) ≠ 0 := by decide
  have n2 : (2147483629 : Int) ≠ 0 := by decide
  have n3 : (8 : Int) ≠ 0 ∧ (8 : Int).natAbs < 1073741824 := by decide
  have hb := fmod_bd ((c.fmod 2147483647 + 977 * k + 1) * 48271) (b := 2147483647) (by decide)
  have s5 : small (((c.fmod 2147483647 + 977 * k + 1) * 48271).fmod 2147483647) = true := small_ok (by omega)
  simp only [f__law_stir, DL.execs, DL.exec, DL.ev, DL.evs, DL.evo, DL.evc, DL.evi, DL.evB_bool, DL.getSh0, DL.getSh_s, DL.getB0, DL.getB0o, DL.getB_s, DL.M.bind_ok, DL.M.bind_ex, DL.M.ofO_some, DL.onNext, if_true, if_false, if_pos, Bool.false_eq_true, DL.put, DL.tyD, List.set_cons_zero, List.set_cons_succ, Bool.not_true, Bool.not_false, DL.forRun, DL.bindT, DL.setAll, DL.items_t, DL.items_l, DL.c_lti, DL.c_lei, DL.c_gti, DL.c_gei, DL.c_eqi, DL.c_nei, DL.wipe, List.map_cons, List.map_nil, DL.fl, reduceCtorEq, false_and, and_false, Nat.reduceEqDiff, DL.noX_ok, DL.items_lD, DL.items_fD, DL.items_tD, DL.mkTup0, DL.mkTup1i, DL.mkTup1t, DL.mkTup2t, DL.mkLst0, DL.mkLst1t, DL.sorted_lD, DL.tuple_lD, DL.len_lD, DL.len_fD, DL.len_tD, mul_l s1, mul_r s2, mul_l s3, mul_r s4, mul_l s5, md_ok n1, md_ok n2, fdiv_ok n3, add_i, stir]
theorem stir_nonneg (c k : Int) : 0 ≤ stir c k := by
  unfold stir
  exact Int.fdiv_nonneg (fmod_bd _ (by decide)).1 (by decide)

theorem idx_lD {F : List (List Int)} {i : Nat} {k : List Int} (h : F[i]? = some k) : idxD (lD F) (.int (i : Int)) = .ok (tD k) := by
  obtain ⟨h1, h2⟩ := List.getElem?_eq_some_iff.mp h
  show M.ofO ((ixN (F.map tD).length (i : Int)).bind fun j => (F.map tD)[j]?) = _
  have e : ixN (F.map tD).length (i : Int) = some i := by
    unfold ixN
    rw [if_pos (by omega), if_pos (by rw [List.length_map]; omega)]
    simp
  rw [e]
  simp [h]
theorem cut_take (xs : List D) (m : Nat) : cut xs none (some (m : Int)) = xs.take m := by
  show (xs.drop 0).take ((if (m : Int) < 0 then ((m : Int) + (xs.length : Int)).toNat else min (m : Int).toNat xs.length) - 0) = _
  rw [if_neg (by omega), List.drop_zero, Int.toNat_natCast, Nat.sub_zero, List.take_eq_take_iff]
  omega
theorem shr_ok {i : Int} (j : Nat) : binD .shr (.int i) (.int (j : Int)) = .ok (.int (i / 2 ^ j)) := by
  show (if 0 ≤ (j : Int) then M.ok (PyData.int (i / 2 ^ (j : Int).toNat)) else .bad) = _
  rw [if_pos (by omega), Int.toNat_natCast]
theorem dd_lenL : ∀ (l : List (List Int)), (dd l).length ≤ l.length
  | [] => Nat.le_refl _
  | y :: l => by
    have := dd_lenL l
    unfold dd
    split
    · rw [List.length_cons]; omega
    · rw [List.length_cons, List.length_cons]; omega
theorem m_law_family_by_ok {n m : Nat} (hn : n ≤ 8) (hm : m < 63) (c : Int) : ∃ F, m__law_family_by [.int (n : Int), .int c, .int (m : Int)] = .ok (fD F) ∧ (∀ k ∈ F, k ∈ setsS n) ∧ F.Pairwise (fun a b => ltI a b = true) ∧ F.length ≤ m := by
  have hl : (setsS n).length = 2 ^ n := by unfold setsS; rw [sortI_len, setsN_len]
  have hp := pow8 hn
  have hpos : 0 < 2 ^ n := Nat.pos_of_ne_zero (by simp)
  have n2 : (2 : Int) ≠ 0 ∧ (2 : Int).natAbs < 1073741824 := by decide
  by_cases hc : c.fmod 2 = 0
  · let p : List Int × Nat → Bool := fun x => decide (((c.fdiv 2) / 2 ^ x.2).fmod 2 = 1)
    refine ⟨((((setsS n).zipIdx 0).filter p).map (·.1)).take m, ?_, ?_, ?_, ?_⟩
    · refine run_ret [.sh (.int (n : Int)), .sh (.int c), .sh (.int (m : Int)), .un, .un, .un, .un] rfl rfl ?_
      have he : enumD 0 ((setsS n).map tD) = ((setsS n).zipIdx 0).map fun p => .tuple [.int (p.2 : Nat), tD p.1] := enum_map (setsS n) 0
      simp only [f__law_family_by, DL.execs, DL.exec, DL.ev, DL.evs, DL.evo, DL.evc, DL.evi, DL.evB_bool, DL.getSh0, DL.getSh_s, DL.getB0, DL.getB0o, DL.getB_s, DL.M.bind_ok, DL.M.bind_ex, DL.M.ofO_some, DL.onNext, if_true, if_false, if_pos, Bool.false_eq_true, DL.put, DL.tyD, List.set_cons_zero, List.set_cons_succ, Bool.not_true, Bool.not_false, DL.forRun, DL.bindT, DL.setAll, DL.items_t, DL.items_l, DL.c_lti, DL.c_lei, DL.c_gti, DL.c_gei, DL.c_eqi, DL.c_nei, DL.wipe, List.map_cons, List.map_nil, DL.fl, reduceCtorEq, false_and, and_false, Nat.reduceEqDiff, DL.noX_ok, DL.items_lD, DL.items_fD, DL.items_tD, DL.mkTup0, DL.mkTup1i, DL.mkTup1t, DL.mkTup2t, DL.mkLst0, DL.mkLst1t, DL.sorted_lD, DL.tuple_lD, DL.len_lD, DL.len_fD, DL.len_tD, g__law_family_by__law_sets, m_law_sets_ok hn, md_ok n2.1, hc, decide_true, he]
      rw [lc_map (p := p) (g := fun x => tD x.1) fun x _ => ⟨_, rfl, by simp only [DL.execs, DL.exec, DL.ev, DL.evs, DL.evo, DL.evc, DL.evi, DL.evB_bool, DL.getSh0, DL.getSh_s, DL.getB0, DL.getB0o, DL.getB_s, DL.M.bind_ok, DL.M.bind_ex, DL.M.ofO_some, DL.onNext, if_true, if_false, if_pos, Bool.false_eq_true, DL.put, DL.tyD, List.set_cons_zero, List.set_cons_succ, Bool.not_true, Bool.not_false, DL.forRun, DL.bindT, DL.setAll, DL.items_t, DL.items_l, DL.c_lti, DL.c_lei, DL.c_gti, DL.c_gei, DL.c_eqi, DL.c_nei, DL.wipe, List.map_cons, List.map_nil, DL.fl, reduceCtorEq, false_and, and_false, Nat.reduceEqDiff, DL.noX_ok, DL.items_lD, DL.items_fD, DL.items_tD, DL.mkTup0, DL.mkTup1i, DL.mkTup1t, DL.mkTup2t, DL.mkLst0, DL.mkLst1t, DL.sorted_lD, DL.tuple_lD, DL.len_lD, DL.len_fD, DL.len_tD, fdiv_ok n2, shr_ok, md_ok n2.1]; rfl, fun _ => by simp only [DL.execs, DL.exec, DL.ev, DL.evs, DL.evo, DL.evc, DL.evi, DL.evB_bool, DL.getSh0, DL.getSh_s, DL.getB0, DL.getB0o, DL.getB_s, DL.M.bind_ok, DL.M.bind_ex, DL.M.ofO_some, DL.onNext, if_true, if_false, if_pos, Bool.false_eq_true, DL.put, DL.tyD, List.set_cons_zero, List.set_cons_succ, Bool.not_true, Bool.not_false, DL.forRun, DL.bindT, DL.setAll, DL.items_t, DL.items_l, DL.c_lti, DL.c_lei, DL.c_gti, DL.c_gei, DL.c_eqi, DL.c_nei, DL.wipe, List.map_cons, List.map_nil, DL.fl, reduceCtorEq, false_and, and_false, Nat.reduceEqDiff, DL.noX_ok, DL.items_lD, DL.items_fD, DL.items_tD, DL.mkTup0, DL.mkTup1i, DL.mkTup1t, DL.mkTup2t, DL.mkLst0, DL.mkLst1t, DL.sorted_lD, DL.tuple_lD, DL.len_lD, DL.len_fD, DL.len_tD]⟩]
      simp only [DL.execs, DL.exec, DL.ev, DL.evs, DL.evo, DL.evc, DL.evi, DL.evB_bool, DL.getSh0, DL.getSh_s, DL.getB0, DL.getB0o, DL.getB_s, DL.M.bind_ok, DL.M.bind_ex, DL.M.ofO_some, DL.onNext, if_true, if_false, if_pos, Bool.false_eq_true, DL.put, DL.tyD, List.set_cons_zero, List.set_cons_succ, Bool.not_true, Bool.not_false, DL.forRun, DL.bindT, DL.setAll, DL.items_t, DL.items_l, DL.c_lti, DL.c_lei, DL.c_gti, DL.c_gei, DL.c_eqi, DL.c_nei, DL.wipe, List.map_cons, List.map_nil, DL.fl, reduceCtorEq, false_and, and_false, Nat.reduceEqDiff, DL.noX_ok, DL.items_lD, DL.items_fD, DL.items_tD, DL.mkTup0, DL.mkTup1i, DL.mkTup1t, DL.mkTup2t, DL.mkLst0, DL.mkLst1t, DL.sorted_lD, DL.tuple_lD, DL.len_lD, DL.len_fD, DL.len_tD]
      rw [mkLst_ok (by
        rw [List.length_map]
        refine Nat.le_trans (List.length_filter_le _ _) ?_
        rw [List.length_zipIdx, hl]
        exact line256 (by omega))]
      simp only [DL.execs, DL.exec, DL.ev, DL.evs, DL.evo, DL.evc, DL.evi, DL.evB_bool, DL.getSh0, DL.getSh_s, DL.getB0, DL.getB0o, DL.getB_s, DL.M.bind_ok, DL.M.bind_ex, DL.M.ofO_some, DL.onNext, if_true, if_false, if_pos, Bool.false_eq_true, DL.put, DL.tyD, List.set_cons_zero, List.set_cons_succ, Bool.not_true, Bool.not_false, DL.forRun, DL.bindT, DL.setAll, DL.items_t, DL.items_l, DL.c_lti, DL.c_lei, DL.c_gti, DL.c_gei, DL.c_eqi, DL.c_nei, DL.wipe, List.map_cons, List.map_nil, DL.fl, reduceCtorEq, false_and, and_false, Nat.reduceEqDiff, DL.noX_ok, DL.items_lD, DL.items_fD, DL.items_tD, DL.mkTup0, DL.mkTup1i, DL.mkTup1t, DL.mkTup2t, DL.mkLst0, DL.mkLst1t, DL.sorted_lD, DL.tuple_lD, DL.len_lD, DL.len_fD, DL.len_tD, slcD, cut_take]
      show M.ok (Fl.ret (.tuple _)) = _
      unfold fD
      rw [List.map_take, List.map_map]
      rfl
    · intro k hk
      have hk := List.mem_of_mem_take hk
      obtain ⟨x, hx, rfl⟩ := List.mem_map.mp hk
      exact List.fst_mem_of_mem_zipIdx (List.mem_filter.mp hx).1
    · have s : (((setsS n).zipIdx 0).map (·.1)).Pairwise fun a b => ltI a b = true := by
        rw [List.zipIdx_map_fst]; exact setsS_strict n
      exact (List.Pairwise.sublist ((List.take_sublist _ _).trans (List.Sublist.map _ (List.filter_sublist))) s)
    · exact List.length_take_le _ _
  · let cnt := ((stir c 0).fmod ((m : Int) + 1)).toNat
    have hb := fmod_bd (stir c 0) (b := (m : Int) + 1) (by omega)
    have bx : ∀ i : Nat, 0 ≤ (stir c ((i : Int) + 1)).fmod ((setsS n).length : Nat) ∧ (stir c ((i : Int) + 1)).fmod ((setsS n).length : Nat) < ((setsS n).length : Nat) := fun i => fmod_bd _ (by omega)
    let pick : Nat → List Int := fun i => ((setsS n)[((stir c ((i : Int) + 1)).fmod ((setsS n).length : Nat)).toNat]?).getD []
    have hpick : ∀ i : Nat, idxD (lD (setsS n)) (.int ((stir c ((i : Int) + 1)).fmod ((setsS n).length : Nat))) = .ok (tD (pick i)) ∧ pick i ∈ setsS n := fun i => by
      obtain ⟨b1, b2⟩ := bx i
      have e : ((((stir c ((i : Int) + 1)).fmod ((setsS n).length : Nat)).toNat : Nat) : Int) = (stir c ((i : Int) + 1)).fmod ((setsS n).length : Nat) := Int.toNat_of_nonneg b1
      have lt : ((stir c ((i : Int) + 1)).fmod ((setsS n).length : Nat)).toNat < (setsS n).length := by omega
      have hg := List.getElem?_eq_getElem lt
      refine ⟨?_, ?_⟩
      · rw [← e, idx_lD hg]
        show _ = M.ok (tD (((setsS n)[_]?).getD []))
        rw [hg]
        rfl
      · show ((setsS n)[_]?).getD [] ∈ _
        rw [hg]
        exact List.getElem_mem _
    refine ⟨sortI (dd ((List.range cnt).map pick)), ?_, ?_, sset_strict _, ?_⟩
    · refine run_ret [.sh (.int (n : Int)), .sh (.int c), .sh (.int (m : Int)), .un, .un, .un, .un] rfl rfl ?_
      have hr : inR ((stir c 0).fmod ((m : Int) + 1)) = true := inR_ok (by omega)
      have nm1 : (m : Int) + 1 ≠ 0 := by omega
      have nl : (((setsS n).length : Nat) : Int) ≠ 0 := by omega
      have hrg : rng 0 ((stir c 0).fmod ((m : Int) + 1)).toNat = (List.range cnt).map fun (i : Nat) => PyData.int (0 + (i : Int)) := rng_map cnt 0
      simp only [f__law_family_by, DL.execs, DL.exec, DL.ev, DL.evs, DL.evo, DL.evc, DL.evi, DL.evB_bool, DL.getSh0, DL.getSh_s, DL.getB0, DL.getB0o, DL.getB_s, DL.M.bind_ok, DL.M.bind_ex, DL.M.ofO_some, DL.onNext, if_true, if_false, if_pos, Bool.false_eq_true, DL.put, DL.tyD, List.set_cons_zero, List.set_cons_succ, Bool.not_true, Bool.not_false, DL.forRun, DL.bindT, DL.setAll, DL.items_t, DL.items_l, DL.c_lti, DL.c_lei, DL.c_gti, DL.c_gei, DL.c_eqi, DL.c_nei, DL.wipe, List.map_cons, List.map_nil, DL.fl, reduceCtorEq, false_and, and_false, Nat.reduceEqDiff, DL.noX_ok, DL.items_lD, DL.items_fD, DL.items_tD, DL.mkTup0, DL.mkTup1i, DL.mkTup1t, DL.mkTup2t, DL.mkLst0, DL.mkLst1t, DL.sorted_lD, DL.tuple_lD, DL.len_lD, DL.len_fD, DL.len_tD, g__law_family_by__law_sets, g__law_family_by__law_stir, m_law_stir_ok, m_law_sets_ok hn, md_ok n2.1, hc, decide_false, add_i, md_ok nm1, hr, hrg]
      rw [lc_map (p := fun _ => true) (g := fun i => tD (pick i)) fun i _ => ⟨_, rfl, rfl, fun _ => by
        simp only [DL.execs, DL.exec, DL.ev, DL.evs, DL.evo, DL.evc, DL.evi, DL.evB_bool, DL.getSh0, DL.getSh_s, DL.getB0, DL.getB0o, DL.getB_s, DL.M.bind_ok, DL.M.bind_ex, DL.M.ofO_some, DL.onNext, if_true, if_false, if_pos, Bool.false_eq_true, DL.put, DL.tyD, List.set_cons_zero, List.set_cons_succ, Bool.not_true, Bool.not_false, DL.forRun, DL.bindT, DL.setAll, DL.items_t, DL.items_l, DL.c_lti, DL.c_lei, DL.c_gti, DL.c_gei, DL.c_eqi, DL.c_nei, DL.wipe, List.map_cons, List.map_nil, DL.fl, reduceCtorEq, false_and, and_false, Nat.reduceEqDiff, DL.noX_ok, DL.items_lD, DL.items_fD, DL.items_tD, DL.mkTup0, DL.mkTup1i, DL.mkTup1t, DL.mkTup2t, DL.mkLst0, DL.mkLst1t, DL.sorted_lD, DL.tuple_lD, DL.len_lD, DL.len_fD, DL.len_tD, g__law_family_by__law_stir, m_law_stir_ok, add_i, md_ok nl, Int.zero_add]
        exact (hpick i).1⟩]
      rw [filter_true]
      simp only [DL.execs, DL.exec, DL.ev, DL.evs, DL.evo, DL.evc, DL.evi, DL.evB_bool, DL.getSh0, DL.getSh_s, DL.getB0, DL.getB0o, DL.getB_s, DL.M.bind_ok, DL.M.bind_ex, DL.M.ofO_some, DL.onNext, if_true, if_false, if_pos, Bool.false_eq_true, DL.put, DL.tyD, List.set_cons_zero, List.set_cons_succ, Bool.not_true, Bool.not_false, DL.forRun, DL.bindT, DL.setAll, DL.items_t, DL.items_l, DL.c_lti, DL.c_lei, DL.c_gti, DL.c_gei, DL.c_eqi, DL.c_nei, DL.wipe, List.map_cons, List.map_nil, DL.fl, reduceCtorEq, false_and, and_false, Nat.reduceEqDiff, DL.noX_ok, DL.items_lD, DL.items_fD, DL.items_tD, DL.mkTup0, DL.mkTup1i, DL.mkTup1t, DL.mkTup2t, DL.mkLst0, DL.mkLst1t, DL.sorted_lD, DL.tuple_lD, DL.len_lD, DL.len_fD, DL.len_tD]
      rw [mkLst_map (line256 (by rw [List.length_range]; show (_ : Int).toNat ≤ _; omega))]
      simp only [DL.execs, DL.exec, DL.ev, DL.evs, DL.evo, DL.evc, DL.evi, DL.evB_bool, DL.getSh0, DL.getSh_s, DL.getB0, DL.getB0o, DL.getB_s, DL.M.bind_ok, DL.M.bind_ex, DL.M.ofO_some, DL.onNext, if_true, if_false, if_pos, Bool.false_eq_true, DL.put, DL.tyD, List.set_cons_zero, List.set_cons_succ, Bool.not_true, Bool.not_false, DL.forRun, DL.bindT, DL.setAll, DL.items_t, DL.items_l, DL.c_lti, DL.c_lei, DL.c_gti, DL.c_gei, DL.c_eqi, DL.c_nei, DL.wipe, List.map_cons, List.map_nil, DL.fl, reduceCtorEq, false_and, and_false, Nat.reduceEqDiff, DL.noX_ok, DL.items_lD, DL.items_fD, DL.items_tD, DL.mkTup0, DL.mkTup1i, DL.mkTup1t, DL.mkTup2t, DL.mkLst0, DL.mkLst1t, DL.sorted_lD, DL.tuple_lD, DL.len_lD, DL.len_fD, DL.len_tD]
      rw [sset_lD (by rw [List.length_map, List.length_range]; show (_ : Int).toNat < _; omega)]
      simp only [DL.execs, DL.exec, DL.ev, DL.evs, DL.evo, DL.evc, DL.evi, DL.evB_bool, DL.getSh0, DL.getSh_s, DL.getB0, DL.getB0o, DL.getB_s, DL.M.bind_ok, DL.M.bind_ex, DL.M.ofO_some, DL.onNext, if_true, if_false, if_pos, Bool.false_eq_true, DL.put, DL.tyD, List.set_cons_zero, List.set_cons_succ, Bool.not_true, Bool.not_false, DL.forRun, DL.bindT, DL.setAll, DL.items_t, DL.items_l, DL.c_lti, DL.c_lei, DL.c_gti, DL.c_gei, DL.c_eqi, DL.c_nei, DL.wipe, List.map_cons, List.map_nil, DL.fl, reduceCtorEq, false_and, and_false, Nat.reduceEqDiff, DL.noX_ok, DL.items_lD, DL.items_fD, DL.items_tD, DL.mkTup0, DL.mkTup1i, DL.mkTup1t, DL.mkTup2t, DL.mkLst0, DL.mkLst1t, DL.sorted_lD, DL.tuple_lD, DL.len_lD, DL.len_fD, DL.len_tD]
    · intro k hk
      obtain ⟨i, _, rfl⟩ := List.mem_map.mp (mem_sset.mp hk)
      exact (hpick i).2
    · rw [sortI_len]
      refine Nat.le_trans (dd_lenL _) ?_
      rw [List.length_map, List.length_range]
      show (_ : Int).toNat ≤ _
      omega

/-! the same -/
abbrev rs (n : Nat) : List D → M D := recM G__law_cell_at ("_law_same" : Str) f__law_same n
theorem ext_self {G : Gm} {f : Str} {m : List D → M D} {ds : List D} : ext G f m f ds = m ds := if_pos rfl
theorem same_int (n : Nat) (i : Int) : rs (n + 1) [.int i, .int i] = .ok (.bool true) := by
  show run _ f__law_same _ = _
  refine run_ret [.sh (.int i), .sh (.int i), .un, .un] rfl rfl ?_
  generalize recM G__law_cell_at ("_law_same" : Str) f__law_same n = R
  have c1 : cmpD .isN (.int i) .none = .ok (.bool false) := rfl
  simp only [f__law_same, DL.execs, DL.exec, DL.ev, DL.evs, DL.evo, DL.evc, DL.evi, DL.evB_bool, DL.getSh0, DL.getSh_s, DL.getB0, DL.getB0o, DL.getB_s, DL.M.bind_ok, DL.M.bind_ex, DL.M.ofO_some, DL.onNext, if_true, if_false, if_pos, Bool.false_eq_true, DL.put, DL.tyD, List.set_cons_zero, List.set_cons_succ, Bool.not_true, Bool.not_false, DL.forRun, DL.bindT, DL.setAll, DL.items_t, DL.items_l, DL.c_lti, DL.c_lei, DL.c_gti, DL.c_gei, DL.c_eqi, DL.c_nei, DL.wipe, List.map_cons, List.map_nil, DL.fl, reduceCtorEq, false_and, and_false, Nat.reduceEqDiff, DL.noX_ok, DL.items_lD, DL.items_fD, DL.items_tD, DL.mkTup0, DL.mkTup1i, DL.mkTup1t, DL.mkTup2t, DL.mkLst0, DL.mkLst1t, DL.sorted_lD, DL.tuple_lD, DL.len_lD, DL.len_fD, DL.len_tD, c1, decide_true]
theorem same_for (R : List D → M D) (s0 s1 : Sl) : ∀ (xs : List D), (∀ x ∈ xs, R [x, x] = .ok (.bool true)) → ∀ (x y : Sl), ∃ x' y', forRun (.tup [2, 3]) (execs (ext G__law_cell_at ("_law_same" : Str) R) (.cons (.ifs (.not (.call ("_law_same" : Str) (.cons (.var 2) (.cons (.var 3) .nil)))) (.cons (.ret (.bl false)) .nil) .nil) .nil)) (zipD xs xs) [s0, s1, x, y] = .ok (.next [s0, s1, x', y'])
  | [], _, x, y => ⟨x, y, rfl⟩
  | d :: xs, h, x, y => by
    obtain ⟨x', y', ih⟩ := same_for R s0 s1 xs (fun z hz => h z (List.mem_cons_of_mem _ hz)) (.sh d) (.sh d)
    refine ⟨x', y', ?_⟩
    rw [zipD]
    simp only [DL.execs, DL.exec, DL.ev, DL.evs, DL.evo, DL.evc, DL.evi, DL.evB_bool, DL.getSh0, DL.getSh_s, DL.getB0, DL.getB0o, DL.getB_s, DL.M.bind_ok, DL.M.bind_ex, DL.M.ofO_some, DL.onNext, if_true, if_false, if_pos, Bool.false_eq_true, DL.put, DL.tyD, List.set_cons_zero, List.set_cons_succ, Bool.not_true, Bool.not_false, DL.forRun, DL.bindT, DL.setAll, DL.items_t, DL.items_l, DL.c_lti, DL.c_lei, DL.c_gti, DL.c_gei, DL.c_eqi, DL.c_nei, DL.wipe, List.map_cons, List.map_nil, DL.fl, reduceCtorEq, false_and, and_false, Nat.reduceEqDiff, DL.noX_ok, DL.items_lD, DL.items_fD, DL.items_tD, DL.mkTup0, DL.mkTup1i, DL.mkTup1t, DL.mkTup2t, DL.mkLst0, DL.mkLst1t, DL.sorted_lD, DL.tuple_lD, DL.len_lD, DL.len_fD, DL.len_tD, ext_self, h d List.mem_cons_self]
    exact ih
theorem same_tup (n : Nat) (xs : List D) (h : ∀ x ∈ xs, rs n [x, x] = .ok (.bool true)) : rs (n + 1) [.tuple xs, .tuple xs] = .ok (.bool true) := by
  show run _ f__law_same _ = _
  refine run_ret [.sh (.tuple xs), .sh (.tuple xs), .un, .un] rfl rfl ?_
  generalize hR : recM G__law_cell_at ("_law_same" : Str) f__law_same n = R
  obtain ⟨x', y', hf⟩ := same_for R (.sh (.tuple xs)) (.sh (.tuple xs)) xs (by rw [← hR]; exact h) .un .un
  have c1 : cmpD .isN (.tuple xs) .none = .ok (.bool false) := rfl
  have c2 : cmpD .ne (.bool false) (.bool false) = .ok (.bool false) := rfl
  have c3 : cmpD .ne (.bool true) (.bool true) = .ok (.bool false) := rfl
  have c4 : bltD .len [.tuple xs] = .ok (.int xs.length) := rfl
  simp only [f__law_same, DL.execs, DL.exec, DL.ev, DL.evs, DL.evo, DL.evc, DL.evi, DL.evB_bool, DL.getSh0, DL.getSh_s, DL.getB0, DL.getB0o, DL.getB_s, DL.M.bind_ok, DL.M.bind_ex, DL.M.ofO_some, DL.onNext, if_true, if_false, if_pos, Bool.false_eq_true, DL.put, DL.tyD, List.set_cons_zero, List.set_cons_succ, Bool.not_true, Bool.not_false, DL.forRun, DL.bindT, DL.setAll, DL.items_t, DL.items_l, DL.c_lti, DL.c_lei, DL.c_gti, DL.c_gei, DL.c_eqi, DL.c_nei, DL.wipe, List.map_cons, List.map_nil, DL.fl, reduceCtorEq, false_and, and_false, Nat.reduceEqDiff, DL.noX_ok, DL.items_lD, DL.items_fD, DL.items_tD, DL.mkTup0, DL.mkTup1i, DL.mkTup1t, DL.mkTup2t, DL.mkLst0, DL.mkLst1t, DL.sorted_lD, DL.tuple_lD, DL.len_lD, DL.len_fD, DL.len_tD, c1, c2, c3, c4, decide_true] at hf ⊢
  rw [hf]
  simp only [DL.execs, DL.exec, DL.ev, DL.evs, DL.evo, DL.evc, DL.evi, DL.evB_bool, DL.getSh0, DL.getSh_s, DL.getB0, DL.getB0o, DL.getB_s, DL.M.bind_ok, DL.M.bind_ex, DL.M.ofO_some, DL.onNext, if_true, if_false, if_pos, Bool.false_eq_true, DL.put, DL.tyD, List.set_cons_zero, List.set_cons_succ, Bool.not_true, Bool.not_false, DL.forRun, DL.bindT, DL.setAll, DL.items_t, DL.items_l, DL.c_lti, DL.c_lei, DL.c_gti, DL.c_gei, DL.c_eqi, DL.c_nei, DL.wipe, List.map_cons, List.map_nil, DL.fl, reduceCtorEq, false_and, and_false, Nat.reduceEqDiff, DL.noX_ok, DL.items_lD, DL.items_fD, DL.items_tD, DL.mkTup0, DL.mkTup1i, DL.mkTup1t, DL.mkTup2t, DL.mkLst0, DL.mkLst1t, DL.sorted_lD, DL.tuple_lD, DL.len_lD, DL.len_fD, DL.len_tD]
theorem same_tD (n : Nat) (k : List Int) : rs (n + 2) [tD k, tD k] = .ok (.bool true) := same_tup (n + 1) _ fun x hx => by
  obtain ⟨i, _, rfl⟩ := List.mem_map.mp hx
  exact same_int n i
theorem same_fD (n : Nat) (F : List (List Int)) : rs (n + 3) [fD F, fD F] = .ok (.bool true) := same_tup (n + 2) _ fun x hx => by
  obtain ⟨i, _, rfl⟩ := List.mem_map.mp hx
  exact same_tD n i
theorem m_law_same_ok (F : List (List Int)) : m__law_same [fD F, fD F] = .ok (.bool true) := same_fD 7 F

/-! the law -/
theorem setsS_short {n : Nat} (h : n ≤ 8) {k : List Int} (hk : k ∈ setsS n) : k.length ≤ line := line256 (by have := setsN_short n k (mem_setsS.mp hk); omega)

end LW

namespace LW
open DL
open PySem (Str PyData)
/-! sets by their points: what is in just one of two, how many two share -/
def sortZ (k : List Int) : List Int := k.mergeSort fun x y => decide (x ≤ y)
def unl (a b : List Int) : List Int := sortZ ((a.filter fun i => !decide (i ∈ b)) ++ (b.filter fun i => !decide (i ∈ a)))
def shN (a b : List Int) : Nat := (a.filter fun i => decide (i ∈ b)).length
theorem mem_unl {a b : List Int} {z : Int} : z ∈ unl a b ↔ (z ∈ a ∧ z ∉ b) ∨ (z ∈ b ∧ z ∉ a) := by
  unfold unl sortZ
  rw [(List.mergeSort_perm _ _).mem_iff, List.mem_append, List.mem_filter, List.mem_filter]
  simp
theorem gsMem {p : Int} : ∀ (k : List Int) (last : Int), goodS p last k = true → ∀ x ∈ k, last < x ∧ x < p
  | [], _, _, x, hx => by cases hx
  | y :: k, last, g, x, hx => by
    simp only [goodS, Bool.and_eq_true, decide_eq_true_eq] at g
    rcases List.mem_cons.mp hx with e | e
    · omega
    · have := gsMem k y g.2 x e
      omega
theorem gsExt {p : Int} : ∀ (a b : List Int) (l m : Int), goodS p l a = true → goodS p m b = true → (∀ x, x ∈ a ↔ x ∈ b) → a = b
  | [], [], _, _, _, _, _ => rfl
  | [], y :: b, _, _, _, _, h => by have := (h y).mpr List.mem_cons_self; cases this
  | x :: a, [], _, _, _, _, h => by have := (h x).mp List.mem_cons_self; cases this
  | x :: a, y :: b, l, m, g1, g2, h => by
    simp only [goodS, Bool.and_eq_true, decide_eq_true_eq] at g1 g2
    have a1 := fun z hz => (gsMem a x g1.2 z hz).1
    have b1 := fun z hz => (gsMem b y g2.2 z hz).1
    have exy : x = y := by
      rcases List.mem_cons.mp ((h x).mp List.mem_cons_self) with e | e
      · exact e
      · rcases List.mem_cons.mp ((h y).mpr List.mem_cons_self) with e' | e'
        · exact e'.symm
        · have := b1 x e
          have := a1 y e'
          omega
    subst exy
    rw [gsExt a b x x g1.2 g2.2 fun z => ⟨fun hz => by
      rcases List.mem_cons.mp ((h z).mp (List.mem_cons_of_mem _ hz)) with e | e
      · have := a1 z hz; omega
      · exact e, fun hz => by
      rcases List.mem_cons.mp ((h z).mpr (List.mem_cons_of_mem _ hz)) with e | e
      · have := b1 z hz; omega
      · exact e⟩]
theorem gsNodup {p : Int} : ∀ (k : List Int) (last : Int), goodS p last k = true → k.Nodup
  | [], _, _ => List.nodup_nil
  | y :: k, last, g => by
    simp only [goodS, Bool.and_eq_true, decide_eq_true_eq] at g
    refine List.nodup_cons.mpr ⟨fun h => ?_, gsNodup k y g.2⟩
    have := gsMem k y g.2 y h
    omega
theorem gsOf {p : Int} : ∀ (k : List Int) (last : Int), k.Pairwise (fun x y => x ≤ y) → k.Nodup → (∀ x ∈ k, last < x ∧ x < p) → goodS p last k = true
  | [], _, _, _, _ => rfl
  | y :: k, last, h1, h2, h3 => by
    rw [List.pairwise_cons] at h1
    rw [List.nodup_cons] at h2
    have hy := h3 y List.mem_cons_self
    rw [goodS, Bool.and_eq_true, Bool.and_eq_true]
    refine ⟨⟨decide_eq_true (by omega), decide_eq_true (by omega)⟩, gsOf k y h1.2 h2.2 fun x hx => ?_⟩
    have := h1.1 x hx
    have hne : y ≠ x := fun e => h2.1 (by rw [e]; exact hx)
    have := h3 x (List.mem_cons_of_mem _ hx)
    omega
theorem sortZ_good {p : Int} {k : List Int} (h2 : k.Nodup) (h3 : ∀ x ∈ k, -1 < x ∧ x < p) : goodS p (-1) (sortZ k) = true := by
  refine gsOf _ _ ?_ ((List.mergeSort_perm _ _).nodup_iff.mpr h2) fun x hx => h3 x ((List.mergeSort_perm _ _).mem_iff.mp hx)
  have := List.pairwise_mergeSort (le := fun x y : Int => decide (x ≤ y)) (fun a b c h1 h2 => by simp at h1 h2 ⊢; omega) (fun a b => by simp; omega) k
  exact this.imp fun h => of_decide_eq_true h
theorem good_unl {p : Int} {a b : List Int} (ha : goodS p (-1) a = true) (hb : goodS p (-1) b = true) : goodS p (-1) (unl a b) = true := by
  refine sortZ_good ?_ fun x hx => ?_
  · refine List.nodup_append.mpr ⟨(gsNodup a _ ha).filter _, (gsNodup b _ hb).filter _, fun x hx y hy e => ?_⟩
    subst e
    have h1 := (List.mem_filter.mp hx).2
    have h2 := (List.mem_filter.mp hy).1
    simp [h2] at h1
  · rcases List.mem_append.mp hx with h | h
    · exact gsMem a _ ha x (List.mem_filter.mp h).1
    · exact gsMem b _ hb x (List.mem_filter.mp h).1
/-- two good sets with the same points -/
theorem gs2 {p : Int} {a b : List Int} (ha : goodS p (-1) a = true) (hb : goodS p (-1) b = true) (h : ∀ x, x ∈ a ↔ x ∈ b) : a = b := gsExt a b _ _ ha hb h
theorem unl_nil {p : Int} {a : List Int} (ha : goodS p (-1) a = true) : unl a [] = a := gs2 (good_unl ha (by rfl)) ha fun x => by rw [mem_unl]; simp
theorem unl_inj {p : Int} {x a b : List Int} (ha : goodS p (-1) a = true) (hb : goodS p (-1) b = true) (e : unl x a = unl x b) : a = b := gs2 ha hb fun z => by
  have h : z ∈ unl x a ↔ z ∈ unl x b := by rw [e]
  rw [mem_unl, mem_unl] at h
  by_cases h1 : z ∈ x <;> by_cases h2 : z ∈ a <;> by_cases h3 : z ∈ b <;> simp_all
theorem unl_back {p : Int} {x a : List Int} (hx : goodS p (-1) x = true) (ha : goodS p (-1) a = true) : unl (unl x a) a = x := gs2 (good_unl (good_unl hx ha) ha) hx fun z => by
  rw [mem_unl, mem_unl]
  by_cases h1 : z ∈ x <;> by_cases h2 : z ∈ a <;> simp_all
theorem unl_both {p : Int} {x a b : List Int} (hx : goodS p (-1) x = true) (ha : goodS p (-1) a = true) (hb : goodS p (-1) b = true) : unl (unl x a) (unl x b) = unl a b := gs2 (good_unl (good_unl hx ha) (good_unl hx hb)) (good_unl ha hb) fun z => by
  rw [mem_unl, mem_unl, mem_unl, mem_unl]
  by_cases h1 : z ∈ x <;> by_cases h2 : z ∈ a <;> by_cases h3 : z ∈ b <;> simp_all
theorem unl_left {p : Int} {x a b : List Int} (hx : goodS p (-1) x = true) (ha : goodS p (-1) a = true) (hb : goodS p (-1) b = true) : unl (unl x a) b = unl x (unl a b) := gs2 (good_unl (good_unl hx ha) hb) (good_unl hx (good_unl ha hb)) fun z => by
  rw [mem_unl, mem_unl, mem_unl, mem_unl]
  by_cases h1 : z ∈ x <;> by_cases h2 : z ∈ a <;> by_cases h3 : z ∈ b <;> simp_all
theorem unl_comm {p : Int} {a b : List Int} (ha : goodS p (-1) a = true) (hb : goodS p (-1) b = true) : unl a b = unl b a := gs2 (good_unl ha hb) (good_unl hb ha) fun z => by
  rw [mem_unl, mem_unl]
  exact Or.comm
/-- a family closed by its sums, good, each set once, with the set without points -/
structure Grp (p : Int) (H : List (List Int)) : Prop where
  good : ∀ a ∈ H, goodS p (-1) a = true
  nil : [] ∈ H
  nd : H.Nodup
  cl : ∀ a ∈ H, ∀ b ∈ H, unl a b ∈ H
def sums2 (x : List Int) (H : List (List Int)) : List (List Int) := H ++ H.map (unl x)
def wsum (x : List Int) (H : List (List Int)) : List (List Int) := sortI (dd (sums2 x H))
theorem grp0 (p : Int) : Grp p [[]] := ⟨fun a h => by rw [List.mem_singleton.mp h]; rfl, List.mem_singleton.mpr rfl, by simp, fun a h b h' => by rw [List.mem_singleton.mp h, List.mem_singleton.mp h']; exact List.mem_singleton.mpr (unl_nil (p := p) rfl)⟩
theorem mem_sums2 {x : List Int} {H : List (List Int)} {z : List Int} : z ∈ sums2 x H ↔ z ∈ H ∨ ∃ a ∈ H, unl x a = z := by
  unfold sums2
  rw [List.mem_append, List.mem_map]
theorem mem_wsum {x : List Int} {H : List (List Int)} {z : List Int} : z ∈ wsum x H ↔ z ∈ H ∨ ∃ a ∈ H, unl x a = z := by
  unfold wsum
  rw [(sortI_perm _).mem_iff, mem_dd, mem_sums2]
theorem grp_wsum {p : Int} {x : List Int} {H : List (List Int)} (g : Grp p H) (hx : goodS p (-1) x = true) : Grp p (wsum x H) where
  good := fun a ha => by
    rcases mem_wsum.mp ha with h | ⟨b, hb, rfl⟩
    · exact g.good a h
    · exact good_unl hx (g.good b hb)
  nil := mem_wsum.mpr (.inl g.nil)
  nd := (sortI_perm _).nodup_iff.mpr (nodup_dd _)
  cl := fun a ha b hb => by
    rcases mem_wsum.mp ha with h | ⟨c, hc, rfl⟩
    · rcases mem_wsum.mp hb with h' | ⟨e, he, rfl⟩
      · exact mem_wsum.mpr (.inl (g.cl a h b h'))
      · refine mem_wsum.mpr (.inr ⟨unl a e, g.cl a h e he, ?_⟩)
        rw [unl_comm (g.good a h) (good_unl hx (g.good e he)), unl_left hx (g.good e he) (g.good a h), unl_comm (g.good e he) (g.good a h)]
    · rcases mem_wsum.mp hb with h' | ⟨e, he, rfl⟩
      · exact mem_wsum.mpr (.inr ⟨unl c b, g.cl c hc b h', (unl_left hx (g.good c hc) (g.good b h')).symm⟩)
      · refine mem_wsum.mpr (.inl ?_)
        rw [unl_both hx (g.good c hc) (g.good e he)]
        exact g.cl c hc e he
/-- a new set's sums are new -/
theorem sums2_nodup {p : Int} {x : List Int} {H : List (List Int)} (g : Grp p H) (hx : goodS p (-1) x = true) (hn : x ∉ H) : (sums2 x H).Nodup := by
  unfold sums2
  refine List.nodup_append.mpr ⟨g.nd, ?_, fun a ha b hb e => ?_⟩
  · refine List.pairwise_map.mpr (List.Pairwise.imp_of_mem (fun ha hb hne e => hne (unl_inj (g.good _ ha) (g.good _ hb) e)) g.nd)
  · subst e
    obtain ⟨c, hc, e⟩ := List.mem_map.mp hb
    refine hn ?_
    rw [← unl_back hx (g.good c hc), e]
    exact g.cl a ha c hc
theorem dd_nodup : ∀ {l : List (List Int)}, l.Nodup → dd l = l
  | [], _ => rfl
  | x :: l, h => by
    rw [List.nodup_cons] at h
    rw [dd, if_neg h.1, dd_nodup h.2]
theorem wsum_new {p : Int} {x : List Int} {H : List (List Int)} (g : Grp p H) (hx : goodS p (-1) x = true) (hn : x ∉ H) : wsum x H = sortI (sums2 x H) := by
  unfold wsum
  rw [dd_nodup (sums2_nodup g hx hn)]
theorem wsum_sub {x : List Int} {H : List (List Int)} {z : List Int} (h : z ∈ H) : z ∈ wsum x H := mem_wsum.mpr (.inl h)
theorem wsum_self {p : Int} {x : List Int} {H : List (List Int)} (g : Grp p H) (hx : goodS p (-1) x = true) : x ∈ wsum x H := mem_wsum.mpr (.inr ⟨[], g.nil, unl_nil hx⟩)
theorem wsum_len (x : List Int) (H : List (List Int)) : (wsum x H).length ≤ 2 * H.length := by
  unfold wsum
  rw [(sortI_perm _).length_eq]
  refine Nat.le_trans (dd_len' _) ?_
  unfold sums2
  rw [List.length_append, List.length_map]
  omega
/-- may be put: even, shares an even number with each -/
def fitQ (H : List (List Int)) (x : List Int) : Bool := (H.all fun o => decide (shN x o % 2 = 0)) && decide (x.length % 2 = 0)
def elig (H : List (List Int)) (x : List Int) : Bool := !decide (x ∈ H) && fitQ H x
theorem not_elig_wsum {p : Int} {x y : List Int} {H : List (List Int)} (h : elig H y = false) : elig (wsum x H) y = false := by
  unfold elig at h ⊢
  rw [Bool.and_eq_false_iff] at h ⊢
  rcases h with h | h
  · left
    rw [Bool.not_eq_false', decide_eq_true_eq] at h ⊢
    exact wsum_sub h
  · right
    unfold fitQ at h ⊢
    rw [Bool.and_eq_false_iff] at h ⊢
    rcases h with h | h
    · left
      rw [List.all_eq_false] at h ⊢
      obtain ⟨o, ho, h⟩ := h
      exact ⟨o, wsum_sub ho, h⟩
    · exact .inr h
def growF (H : List (List Int)) : List (List Int) → List (List Int)
  | [] => H
  | x :: S => growF (if elig H x = true then wsum x H else H) S
/-- the law's own growing: n turns at most -/
def growL (S : List (List Int)) : Nat → List (List Int) → Option (List (List Int))
  | 0, _ => none
  | n + 1, H => match S.filter (elig H) with
    | [] => some H
    | x :: _ => growL S n (sortI (sums2 x H))
theorem grow_same {p : Int} : ∀ (R P : List (List Int)) (H : List (List Int)) (n : Nat), (∀ x ∈ R, goodS p (-1) x = true) → Grp p H → (∀ x ∈ P, elig H x = false) → R.length < n → growL (P ++ R) n H = some (growF H R)
  | [], P, H, 0, _, _, _, hn => by omega
  | [], P, H, n + 1, _, _, hP, _ => by
    have : (P ++ []).filter (elig H) = [] := by
      rw [List.append_nil, List.filter_eq_nil_iff]
      intro x hx h
      rw [hP x hx] at h
      cases h
    rw [growL, this]
    rfl
  | x :: R, P, H, 0, _, _, _, hn => by omega
  | x :: R, P, H, n + 1, hR, g, hP, hn => by
    have hx := hR x List.mem_cons_self
    have e0 : P ++ x :: R = (P ++ [x]) ++ R := by simp
    rw [List.length_cons] at hn
    by_cases h : elig H x = true
    · have hf : (P ++ x :: R).filter (elig H) = x :: R.filter (elig H) := by
        have : P.filter (elig H) = [] := by
          rw [List.filter_eq_nil_iff]
          intro y hy h
          rw [hP y hy] at h
          cases h
        rw [List.filter_append, this, List.nil_append, List.filter_cons_of_pos h]
      have hn2 : x ∉ H := by
        unfold elig at h
        rw [Bool.and_eq_true] at h
        simpa using h.1
      rw [growL, hf]
      show growL (P ++ x :: R) n (sortI (sums2 x H)) = _
      rw [← wsum_new g hx hn2, e0, growF, if_pos h]
      refine grow_same R (P ++ [x]) (wsum x H) n (fun y hy => hR y (List.mem_cons_of_mem _ hy)) (grp_wsum g hx) (fun y hy => ?_) (by omega)
      rcases List.mem_append.mp hy with hy | hy
      · exact not_elig_wsum (p := p) (hP y hy)
      · rw [List.mem_singleton.mp hy]
        unfold elig
        rw [decide_eq_true (wsum_self g hx)]
        rfl
    · rw [e0, growF, if_neg h]
      refine grow_same R (P ++ [x]) H (n + 1) (fun y hy => hR y (List.mem_cons_of_mem _ hy)) g (fun y hy => ?_) (by omega)
      rcases List.mem_append.mp hy with hy | hy
      · exact hP y hy
      · rw [List.mem_singleton.mp hy]
        exact Bool.not_eq_true _ ▸ h

end LW

namespace LW
open DL
open PySem (Str PyData)
theorem gsPair {p : Int} : ∀ (k : List Int) (last : Int), goodS p last k = true → k.Pairwise (fun x y => x ≤ y)
  | [], _, _ => .nil
  | y :: k, last, g => by
    simp only [goodS, Bool.and_eq_true, decide_eq_true_eq] at g
    exact List.pairwise_cons.mpr ⟨fun x hx => by have := gsMem k y g.2 x hx; omega, gsPair k y g.2⟩
theorem gsFilter {p q : Int} {k : List Int} {f : Int → Bool} (h : goodS p (-1) k = true) (hf : ∀ x ∈ k, f x = true → x < q) : goodS q (-1) (k.filter f) = true :=
  gsOf _ _ ((gsPair k _ h).sublist List.filter_sublist) ((gsNodup k _ h).sublist List.filter_sublist) fun x hx => by
    obtain ⟨h1, h2⟩ := List.mem_filter.mp hx
    exact ⟨(gsMem k _ h x h1).1, hf x h1 h2⟩
theorem gsLen {n : Int} : ∀ (k : List Int) (l : Int), goodS n l k = true → l ≤ n → (k.length : Int) ≤ n - l
  | [], l, _, h => by simp; omega
  | p :: k, l, h, hl => by
    rw [goodS, Bool.and_eq_true, Bool.and_eq_true] at h
    have h1 := of_decide_eq_true h.1.1
    have h2 := of_decide_eq_true h.1.2
    have := gsLen k p h.2 (by omega)
    rw [List.length_cons]
    push_cast
    omega
theorem good_setsN : ∀ (n : Nat) (k : List Int), goodS (n : Int) (-1) k = true → k ∈ setsN n
  | 0, [], _ => List.mem_singleton.mpr rfl
  | 0, x :: k, h => by
    have := gsMem _ _ h x List.mem_cons_self
    omega
  | n + 1, k, h => by
    have hk : goodS (n : Int) (-1) (k.filter fun x => !decide (x = (n : Int))) = true := gsFilter h fun x hx hf => by
      have := gsMem k _ h x hx
      simp at hf
      omega
    have ih := good_setsN n _ hk
    rw [setsN, List.mem_append, List.mem_map]
    by_cases hm : (n : Int) ∈ k
    · refine .inr ⟨_, ih, ?_⟩
      refine gs2 (p := ((n + 1 : Nat) : Int)) ?_ h fun x => ?_
      · have := goodS_snoc (p := (n : Int)) _ (-1) (by omega) hk
        simpa using this
      · rw [List.mem_append, List.mem_filter, List.mem_singleton]
        by_cases hx : x = (n : Int)
        · simp [hx, hm]
        · simp [hx]
    · left
      have : k.filter (fun x => !decide (x = (n : Int))) = k := by
        rw [List.filter_eq_self]
        intro x hx
        have : x ≠ (n : Int) := fun e => hm (e ▸ hx)
        simp [this]
      rw [this] at ih
      exact ih
theorem grp_len {n : Nat} (hn : n ≤ 8) {H : List (List Int)} (g : Grp (n : Int) H) : H.length ≤ 256 := by
  refine Nat.le_trans (g.nd.length_le_of_subset fun k hk => good_setsN n k (g.good k hk)) ?_
  rw [setsN_len]
  exact pow8 hn
theorem good_len {n : Nat} (hn : n ≤ 8) {k : List Int} (h : goodS (n : Int) (-1) k = true) : k.length ≤ 8 := Nat.le_trans (setsN_short n k (good_setsN n k h)) hn
theorem sort_ints (k : List Int) : bltD .sorted [.list (k.map .int)] = .ok (.list ((sortZ k).map .int)) := by
  have h : okSort (k.map .int) = true := by
    unfold okSort
    rw [List.all_eq_true]
    intro d hd
    obtain ⟨x, _, rfl⟩ := List.mem_map.mp hd
    rw [Bool.and_eq_true, Bool.and_eq_true, List.all_eq_true]
    refine ⟨⟨rfl, decide_eq_true (by rw [PyData.depth]; omega)⟩, fun e he => ?_⟩
    obtain ⟨y, _, rfl⟩ := List.mem_map.mp he
    rw [PySem.W.alike]
  show (sortL (k.map .int)).bind (fun ys => M.ok (PyData.list ys)) = _
  unfold sortL
  rw [if_pos h]
  unfold sortZ
  rw [List.map_mergeSort (r := fun x y : Int => decide (x ≤ y)) (s := leD) (f := PyData.int) fun a _ b _ => ?_]
  · rfl
  · have e : PySem.W.dataLt (PyData.int b) (PyData.int a) = decide (b < a) := by
      show PyProof.Rows.lexLt PyProof.Rows.itemOrd (PySem.W.keyToks (PyData.int b)) (PySem.W.keyToks (PyData.int a)) = _
      rw [PySem.W.keyToks, PySem.W.keyToks]
      by_cases h : b = a
      · subst h
        refine (PyProof.Rows.lex_self (O := PyProof.Rows.itemOrd) (Sum.inl b) _ _).trans ?_
        rw [decide_eq_false (by omega)]
        rfl
      · exact PyProof.Rows.lex_diff (O := PyProof.Rows.itemOrd) (x := Sum.inl b) (y := Sum.inl a) (by simpa using h)
    unfold leD
    rw [e]
    by_cases h : a ≤ b
    · rw [decide_eq_true h, decide_eq_false (by omega)]; rfl
    · rw [decide_eq_false h, decide_eq_true (by omega)]; rfl
theorem m_unlike_ok {a b : List Int} (ha : a.length ≤ 1000) (hb : b.length ≤ 1000) : m_unlike [tD a, tD b] = .ok (tD (unl a b)) := by
  refine run_ret [.sh (tD a), .sh (tD b), .un, .un] rfl rfl ?_
  have e1 : ∀ s2, lcRun (.nm 3) (ev G_need_few (.var 3)) (evc G_need_few (.yes (.cmp .nmem (.var 3) (.var 1)))) [.sh (tD a), .sh (tD b), s2, .un] (a.map .int) = .ok ((a.filter fun i => !decide (i ∈ b)).map .int) := fun s2 =>
    lc_map fun i _ => ⟨_, rfl, by simp only [DL.execs, DL.exec, DL.ev, DL.evs, DL.evo, DL.evc, DL.evi, DL.evB_bool, DL.getSh0, DL.getSh_s, DL.getB0, DL.getB0o, DL.getB_s, DL.M.bind_ok, DL.M.bind_ex, DL.M.ofO_some, DL.onNext, if_true, if_false, if_pos, Bool.false_eq_true, DL.put, DL.tyD, List.set_cons_zero, List.set_cons_succ, Bool.not_true, Bool.not_false, DL.forRun, DL.bindT, DL.setAll, DL.items_t, DL.items_l, DL.c_lti, DL.c_lei, DL.c_gti, DL.c_gei, DL.c_eqi, DL.c_nei, DL.wipe, List.map_cons, List.map_nil, DL.fl, reduceCtorEq, false_and, and_false, Nat.reduceEqDiff, DL.noX_ok, DL.items_lD, DL.items_fD, DL.items_tD, DL.mkTup0, DL.mkTup1i, DL.mkTup1t, DL.mkTup2t, DL.mkLst0, DL.mkLst1t, DL.sorted_lD, DL.tuple_lD, DL.len_lD, DL.len_fD, DL.len_tD, c_nmem], fun _ => rfl⟩
  have e2 : ∀ s2, lcRun (.nm 3) (ev G_need_few (.var 3)) (evc G_need_few (.yes (.cmp .nmem (.var 3) (.var 0)))) [.sh (tD a), .sh (tD b), s2, .un] (b.map .int) = .ok ((b.filter fun i => !decide (i ∈ a)).map .int) := fun s2 =>
    lc_map fun i _ => ⟨_, rfl, by simp only [DL.execs, DL.exec, DL.ev, DL.evs, DL.evo, DL.evc, DL.evi, DL.evB_bool, DL.getSh0, DL.getSh_s, DL.getB0, DL.getB0o, DL.getB_s, DL.M.bind_ok, DL.M.bind_ex, DL.M.ofO_some, DL.onNext, if_true, if_false, if_pos, Bool.false_eq_true, DL.put, DL.tyD, List.set_cons_zero, List.set_cons_succ, Bool.not_true, Bool.not_false, DL.forRun, DL.bindT, DL.setAll, DL.items_t, DL.items_l, DL.c_lti, DL.c_lei, DL.c_gti, DL.c_gei, DL.c_eqi, DL.c_nei, DL.wipe, List.map_cons, List.map_nil, DL.fl, reduceCtorEq, false_and, and_false, Nat.reduceEqDiff, DL.noX_ok, DL.items_lD, DL.items_fD, DL.items_tD, DL.mkTup0, DL.mkTup1i, DL.mkTup1t, DL.mkTup2t, DL.mkLst0, DL.mkLst1t, DL.sorted_lD, DL.tuple_lD, DL.len_lD, DL.len_fD, DL.len_tD, c_nmem], fun _ => rfl⟩
  have la := List.length_filter_le (fun i => !decide (i ∈ b)) a
  have lb := List.length_filter_le (fun i => !decide (i ∈ a)) b
  have e3 : mkLst ((a.filter fun i => !decide (i ∈ b)).map PyData.int) = .ok (.list ((a.filter fun i => !decide (i ∈ b)).map .int)) := mkLst_ok (line256 (by rw [List.length_map]; omega))
  have e4 : mkLst ((b.filter fun i => !decide (i ∈ a)).map PyData.int) = .ok (.list ((b.filter fun i => !decide (i ∈ a)).map .int)) := mkLst_ok (line256 (by rw [List.length_map]; omega))
  have e5 : binD .add (.list ((a.filter fun i => !decide (i ∈ b)).map .int)) (.list ((b.filter fun i => !decide (i ∈ a)).map .int)) = .ok (.list (((a.filter fun i => !decide (i ∈ b)) ++ (b.filter fun i => !decide (i ∈ a))).map .int)) := by
    show mkLst _ = _
    rw [← List.map_append, mkLst_ok (line256 (by rw [List.length_map, List.length_append]; omega))]
  have e6 : bltD .tuple [.list ((unl a b).map .int)] = .ok (tD (unl a b)) := rfl
  have e7 : bltD .sorted [.list (((a.filter fun i => !decide (i ∈ b)) ++ (b.filter fun i => !decide (i ∈ a))).map .int)] = .ok (.list ((unl a b).map .int)) := sort_ints _
  simp only [DL.execs, DL.exec, DL.ev, DL.evs, DL.evo, DL.evc, DL.evi, DL.evB_bool, DL.getSh0, DL.getSh_s, DL.getB0, DL.getB0o, DL.getB_s, DL.M.bind_ok, DL.M.bind_ex, DL.M.ofO_some, DL.onNext, if_true, if_false, if_pos, Bool.false_eq_true, DL.put, DL.tyD, List.set_cons_zero, List.set_cons_succ, Bool.not_true, Bool.not_false, DL.forRun, DL.bindT, DL.setAll, DL.items_t, DL.items_l, DL.c_lti, DL.c_lei, DL.c_gti, DL.c_gei, DL.c_eqi, DL.c_nei, DL.wipe, List.map_cons, List.map_nil, DL.fl, reduceCtorEq, false_and, and_false, Nat.reduceEqDiff, DL.noX_ok, DL.items_lD, DL.items_fD, DL.items_tD, DL.mkTup0, DL.mkTup1i, DL.mkTup1t, DL.mkTup2t, DL.mkLst0, DL.mkLst1t, DL.sorted_lD, DL.tuple_lD, DL.len_lD, DL.len_fD, DL.len_tD] at e1 e2
  simp only [f_unlike, DL.execs, DL.exec, DL.ev, DL.evs, DL.evo, DL.evc, DL.evi, DL.evB_bool, DL.getSh0, DL.getSh_s, DL.getB0, DL.getB0o, DL.getB_s, DL.M.bind_ok, DL.M.bind_ex, DL.M.ofO_some, DL.onNext, if_true, if_false, if_pos, Bool.false_eq_true, DL.put, DL.tyD, List.set_cons_zero, List.set_cons_succ, Bool.not_true, Bool.not_false, DL.forRun, DL.bindT, DL.setAll, DL.items_t, DL.items_l, DL.c_lti, DL.c_lei, DL.c_gti, DL.c_gei, DL.c_eqi, DL.c_nei, DL.wipe, List.map_cons, List.map_nil, DL.fl, reduceCtorEq, false_and, and_false, Nat.reduceEqDiff, DL.noX_ok, DL.items_lD, DL.items_fD, DL.items_tD, DL.mkTup0, DL.mkTup1i, DL.mkTup1t, DL.mkTup2t, DL.mkLst0, DL.mkLst1t, DL.sorted_lD, DL.tuple_lD, DL.len_lD, DL.len_fD, DL.len_tD, e1, e2, e3, e4, e5, e7, e6]
theorem m_law_unlike_ok {a b : List Int} (ha : a.length ≤ 1000) (hb : b.length ≤ 1000) : m__law_unlike [tD a, tD b] = .ok (tD (unl a b)) := by
  refine run_ret [.sh (tD a), .sh (tD b), .un, .un] rfl rfl ?_
  have e1 : ∀ s2, lcRun (.nm 3) (ev G__law_family_by (.var 3)) (evc G__law_family_by (.yes (.cmp .nmem (.var 3) (.var 1)))) [.sh (tD a), .sh (tD b), s2, .un] (a.map .int) = .ok ((a.filter fun i => !decide (i ∈ b)).map .int) := fun s2 =>
    lc_map fun i _ => ⟨_, rfl, by simp only [DL.execs, DL.exec, DL.ev, DL.evs, DL.evo, DL.evc, DL.evi, DL.evB_bool, DL.getSh0, DL.getSh_s, DL.getB0, DL.getB0o, DL.getB_s, DL.M.bind_ok, DL.M.bind_ex, DL.M.ofO_some, DL.onNext, if_true, if_false, if_pos, Bool.false_eq_true, DL.put, DL.tyD, List.set_cons_zero, List.set_cons_succ, Bool.not_true, Bool.not_false, DL.forRun, DL.bindT, DL.setAll, DL.items_t, DL.items_l, DL.c_lti, DL.c_lei, DL.c_gti, DL.c_gei, DL.c_eqi, DL.c_nei, DL.wipe, List.map_cons, List.map_nil, DL.fl, reduceCtorEq, false_and, and_false, Nat.reduceEqDiff, DL.noX_ok, DL.items_lD, DL.items_fD, DL.items_tD, DL.mkTup0, DL.mkTup1i, DL.mkTup1t, DL.mkTup2t, DL.mkLst0, DL.mkLst1t, DL.sorted_lD, DL.tuple_lD, DL.len_lD, DL.len_fD, DL.len_tD, c_nmem], fun _ => rfl⟩
  have e2 : ∀ s2, lcRun (.nm 3) (ev G__law_family_by (.var 3)) (evc G__law_family_by (.yes (.cmp .nmem (.var 3) (.var 0)))) [.sh (tD a), .sh (tD b), s2, .un] (b.map .int) = .ok ((b.filter fun i => !decide (i ∈ a)).map .int) := fun s2 =>
    lc_map fun i _ => ⟨_, rfl, by simp only [DL.execs, DL.exec, DL.ev, DL.evs, DL.evo, DL.evc, DL.evi, DL.evB_bool, DL.getSh0, DL.getSh_s, DL.getB0, DL.getB0o, DL.getB_s, DL.M.bind_ok, DL.M.bind_ex, DL.M.ofO_some, DL.onNext, if_true, if_false, if_pos, Bool.false_eq_true, DL.put, DL.tyD, List.set_cons_zero, List.set_cons_succ, Bool.not_true, Bool.not_false, DL.forRun, DL.bindT, DL.setAll, DL.items_t, DL.items_l, DL.c_lti, DL.c_lei, DL.c_gti, DL.c_gei, DL.c_eqi, DL.c_nei, DL.wipe, List.map_cons, List.map_nil, DL.fl, reduceCtorEq, false_and, and_false, Nat.reduceEqDiff, DL.noX_ok, DL.items_lD, DL.items_fD, DL.items_tD, DL.mkTup0, DL.mkTup1i, DL.mkTup1t, DL.mkTup2t, DL.mkLst0, DL.mkLst1t, DL.sorted_lD, DL.tuple_lD, DL.len_lD, DL.len_fD, DL.len_tD, c_nmem], fun _ => rfl⟩
  have la := List.length_filter_le (fun i => !decide (i ∈ b)) a
  have lb := List.length_filter_le (fun i => !decide (i ∈ a)) b
  have e3 : mkLst ((a.filter fun i => !decide (i ∈ b)).map PyData.int) = .ok (.list ((a.filter fun i => !decide (i ∈ b)).map .int)) := mkLst_ok (line256 (by rw [List.length_map]; omega))
  have e4 : mkLst ((b.filter fun i => !decide (i ∈ a)).map PyData.int) = .ok (.list ((b.filter fun i => !decide (i ∈ a)).map .int)) := mkLst_ok (line256 (by rw [List.length_map]; omega))
  have e5 : binD .add (.list ((a.filter fun i => !decide (i ∈ b)).map .int)) (.list ((b.filter fun i => !decide (i ∈ a)).map .int)) = .ok (.list (((a.filter fun i => !decide (i ∈ b)) ++ (b.filter fun i => !decide (i ∈ a))).map .int)) := by
    show mkLst _ = _
    rw [← List.map_append, mkLst_ok (line256 (by rw [List.length_map, List.length_append]; omega))]
  have e6 : bltD .tuple [.list ((unl a b).map .int)] = .ok (tD (unl a b)) := rfl
  have e7 : bltD .sorted [.list (((a.filter fun i => !decide (i ∈ b)) ++ (b.filter fun i => !decide (i ∈ a))).map .int)] = .ok (.list ((unl a b).map .int)) := sort_ints _
  simp only [DL.execs, DL.exec, DL.ev, DL.evs, DL.evo, DL.evc, DL.evi, DL.evB_bool, DL.getSh0, DL.getSh_s, DL.getB0, DL.getB0o, DL.getB_s, DL.M.bind_ok, DL.M.bind_ex, DL.M.ofO_some, DL.onNext, if_true, if_false, if_pos, Bool.false_eq_true, DL.put, DL.tyD, List.set_cons_zero, List.set_cons_succ, Bool.not_true, Bool.not_false, DL.forRun, DL.bindT, DL.setAll, DL.items_t, DL.items_l, DL.c_lti, DL.c_lei, DL.c_gti, DL.c_gei, DL.c_eqi, DL.c_nei, DL.wipe, List.map_cons, List.map_nil, DL.fl, reduceCtorEq, false_and, and_false, Nat.reduceEqDiff, DL.noX_ok, DL.items_lD, DL.items_fD, DL.items_tD, DL.mkTup0, DL.mkTup1i, DL.mkTup1t, DL.mkTup2t, DL.mkLst0, DL.mkLst1t, DL.sorted_lD, DL.tuple_lD, DL.len_lD, DL.len_fD, DL.len_tD] at e1 e2
  simp only [f__law_unlike, DL.execs, DL.exec, DL.ev, DL.evs, DL.evo, DL.evc, DL.evi, DL.evB_bool, DL.getSh0, DL.getSh_s, DL.getB0, DL.getB0o, DL.getB_s, DL.M.bind_ok, DL.M.bind_ex, DL.M.ofO_some, DL.onNext, if_true, if_false, if_pos, Bool.false_eq_true, DL.put, DL.tyD, List.set_cons_zero, List.set_cons_succ, Bool.not_true, Bool.not_false, DL.forRun, DL.bindT, DL.setAll, DL.items_t, DL.items_l, DL.c_lti, DL.c_lei, DL.c_gti, DL.c_gei, DL.c_eqi, DL.c_nei, DL.wipe, List.map_cons, List.map_nil, DL.fl, reduceCtorEq, false_and, and_false, Nat.reduceEqDiff, DL.noX_ok, DL.items_lD, DL.items_fD, DL.items_tD, DL.mkTup0, DL.mkTup1i, DL.mkTup1t, DL.mkTup2t, DL.mkLst0, DL.mkLst1t, DL.sorted_lD, DL.tuple_lD, DL.len_lD, DL.len_fD, DL.len_tD, e1, e2, e3, e4, e5, e7, e6]
theorem fmod2 (m : Nat) : binD .md (.int (m : Int)) (.int 2) = .ok (.int ((m % 2 : Nat) : Int)) := by
  rw [md_ok (by decide)]
  congr 2
  rw [Int.fmod_eq_emod_of_nonneg _ (by decide)]
  rfl
end LW

namespace LW
open DL
open PySem (Str PyData)
theorem flen (f : Int → Bool) : ∀ a : List Int, a.length = (a.filter f).length + (a.filter fun x => !f x).length
  | [] => rfl
  | x :: a => by
    have ih := flen f a
    cases h : f x with
    | true => rw [List.filter_cons_of_pos h, List.filter_cons_of_neg (by simp [h]), List.length_cons, List.length_cons]; omega
    | false => rw [List.filter_cons_of_neg (by simp [h]), List.filter_cons_of_pos (by simp [h]), List.length_cons, List.length_cons]; omega
theorem same_len {α : Type} {a b : List α} (ha : a.Nodup) (hb : b.Nodup) (h : ∀ x, x ∈ a ↔ x ∈ b) : a.length = b.length := ((List.perm_ext_iff_of_nodup ha hb).mpr h).length_eq
theorem shN_comm {a b : List Int} (ha : a.Nodup) (hb : b.Nodup) : shN a b = shN b a := same_len (ha.filter _) (hb.filter _) fun x => by
  rw [List.mem_filter, List.mem_filter]
  simp
  exact And.comm
theorem shN_add {a b v : List Int} (ha : a.Nodup) (hb : b.Nodup) : shN (unl a b) v % 2 = (shN a v + shN b v) % 2 := by
  have e1 : shN (unl a b) v = ((a.filter fun i => !decide (i ∈ b)).filter fun i => decide (i ∈ v)).length + ((b.filter fun i => !decide (i ∈ a)).filter fun i => decide (i ∈ v)).length := by
    unfold shN unl sortZ
    rw [((List.mergeSort_perm _ _).filter _).length_eq, List.filter_append, List.length_append]
  have e2 := flen (fun i => decide (i ∈ b)) (a.filter fun i => decide (i ∈ v))
  have e3 := flen (fun i => decide (i ∈ a)) (b.filter fun i => decide (i ∈ v))
  have e4 : ((a.filter fun i => decide (i ∈ v)).filter fun i => decide (i ∈ b)).length = ((b.filter fun i => decide (i ∈ v)).filter fun i => decide (i ∈ a)).length := same_len ((ha.filter _).filter _) ((hb.filter _).filter _) fun x => by
    simp only [List.mem_filter, decide_eq_true_eq]
    constructor
    · rintro ⟨⟨h1, h2⟩, h3⟩; exact ⟨⟨h3, h2⟩, h1⟩
    · rintro ⟨⟨h1, h2⟩, h3⟩; exact ⟨⟨h3, h2⟩, h1⟩
  have e5 : ((a.filter fun i => decide (i ∈ v)).filter fun i => !decide (i ∈ b)).length = ((a.filter fun i => !decide (i ∈ b)).filter fun i => decide (i ∈ v)).length := by
    rw [List.filter_filter, List.filter_filter]
    congr 2
    funext i
    exact Bool.and_comm _ _
  have e6 : ((b.filter fun i => decide (i ∈ v)).filter fun i => !decide (i ∈ a)).length = ((b.filter fun i => !decide (i ∈ a)).filter fun i => decide (i ∈ v)).length := by
    rw [List.filter_filter, List.filter_filter]
    congr 2
    funext i
    exact Bool.and_comm _ _
  have e7 : shN a v = (a.filter fun i => decide (i ∈ v)).length := rfl
  have e8 : shN b v = (b.filter fun i => decide (i ∈ v)).length := rfl
  omega

end LW

namespace LW
open DL
open PySem (Str PyData)
/-! parted_ways, as it goes -/
abbrev Hd := Int × (List Int × List Int)
def hdD (h : Hd) : Int × D := (h.1, .tuple [tD h.2.1, tD h.2.2])
def lastI (r : List Int) : Int := r.getLastD (-1)
def hGet (hs : List Hd) (p : Int) : Option (List Int × List Int) := (hs.find? fun h => decide (h.1 = p)).map (·.2)
theorem dGet_hd (p : Int) : ∀ hs : List Hd, dGet (hs.map hdD) p = (hGet hs p).map fun q => PyData.tuple [tD q.1, tD q.2]
  | [] => rfl
  | h :: hs => by
    have ih := dGet_hd p hs
    unfold dGet hGet at ih ⊢
    rw [List.map_cons]
    by_cases e : h.1 = p
    · have e1 : decide ((hdD h).1 = p) = true := decide_eq_true e
      have e2 : decide (h.1 = p) = true := decide_eq_true e
      simp only [List.find?_cons, e1, e2]
      rfl
    · have e1 : decide ((hdD h).1 = p) = false := decide_eq_false e
      have e2 : decide (h.1 = p) = false := decide_eq_false e
      simp only [List.find?_cons, e1, e2]
      exact ih
theorem dPut_hd {p : Int} {q : List Int × List Int} {hs : List Hd} (h : hGet hs p = none) : dPut (hs.map hdD) p (.tuple [tD q.1, tD q.2]) = (hs ++ [(p, q)]).map hdD := by
  have e : ((hs.map hdD).any fun x => decide (x.1 = p)) = false := by
    rw [List.any_map, List.any_eq_false]
    intro x hx hp
    unfold hGet at h
    rw [Option.map_eq_none_iff, List.find?_eq_none] at h
    exact h x hx hp
  unfold dPut
  rw [e, if_neg Bool.false_ne_true, List.map_append]
  rfl
theorem idx_lastI {r : List Int} (h : r ≠ []) : idxD (tD r) (.int (-1)) = .ok (.int (lastI r)) := by
  obtain ⟨l, p, rfl⟩ : ∃ l p, r = l ++ [p] := ⟨r.dropLast, r.getLast h, (List.dropLast_concat_getLast h).symm⟩
  show M.ofO ((ixN ((l ++ [p]).map PyData.int).length (-1)).bind fun j => ((l ++ [p]).map PyData.int)[j]?) = _
  have : ixN ((l ++ [p]).map PyData.int).length (-1) = some l.length := by
    unfold ixN
    rw [if_neg (by decide), if_pos (by simp; omega)]
    congr 1
    simp
    omega
  rw [this]
  simp [lastI]
/-- the last point is the greatest -/
theorem lastI_max {p : Int} {r : List Int} (g : goodS p (-1) r = true) (h : r ≠ []) : lastI r ∈ r ∧ ∀ x ∈ r, x ≤ lastI r := by
  obtain ⟨l, q, rfl⟩ : ∃ l q, r = l ++ [q] := ⟨r.dropLast, r.getLast h, (List.dropLast_concat_getLast h).symm⟩
  have e : lastI (l ++ [q]) = q := by simp [lastI]
  rw [e]
  refine ⟨by simp, fun x hx => ?_⟩
  have hp := gsPair _ _ g
  rw [List.pairwise_append] at hp
  rcases List.mem_append.mp hx with h1 | h1
  · exact hp.2.2 x h1 q (by simp)
  · rw [List.mem_singleton.mp h1]; exact Int.le_refl _
/-- how far a set's last point is -/
def far (r : List Int) : Nat := if r = [] then 0 else (lastI r + 1).toNat
theorem far_le {n : Nat} {r : List Int} (g : goodS (n : Int) (-1) r = true) : far r ≤ n := by
  unfold far
  split
  · omega
  · rename_i h
    have := gsMem _ _ g _ (lastI_max g h).1
    omega
theorem far_less {n : Nat} {r h : List Int} (g1 : goodS (n : Int) (-1) r = true) (g2 : goodS (n : Int) (-1) h = true) (h1 : r ≠ []) (h2 : h ≠ []) (e : lastI h = lastI r) : far (unl r h) < far r := by
  obtain ⟨a1, a2⟩ := lastI_max g1 h1
  obtain ⟨b1, b2⟩ := lastI_max g2 h2
  have ge := gsMem _ _ g1 _ a1
  unfold far
  rw [if_neg h1]
  split
  · omega
  · rename_i hz
    obtain ⟨c1, c2⟩ := lastI_max (good_unl g1 g2) hz
    have gc := gsMem _ _ (good_unl g1 g2) _ c1
    have lt : lastI (unl r h) < lastI r := by
      rw [mem_unl] at c1
      rcases c1 with ⟨d1, d2⟩ | ⟨d1, d2⟩
      · have := a2 _ d1
        rcases Int.lt_or_eq_of_le this with z | z
        · exact z
        · exact absurd (z ▸ e ▸ b1) d2
      · have := b2 _ d1
        rw [e] at this
        rcases Int.lt_or_eq_of_le this with z | z
        · exact z
        · exact absurd (z ▸ a1) d2
    omega
/-- a set parted by the heads -/
def redF (hs : List Hd) : Nat → List Int → List Int → List Int × List Int
  | 0, r, ps => (r, ps)
  | f + 1, r, ps => if r = [] then (r, ps) else match hGet hs (lastI r) with
    | none => (r, ps)
    | some q => redF hs f (unl r q.1) (unl ps q.2)
structure HdOk (n K : Nat) (hs : List Hd) : Prop where
  ok : ∀ p q, hGet hs p = some q → goodS (n : Int) (-1) q.1 = true ∧ q.1 ≠ [] ∧ lastI q.1 = p ∧ goodS (K : Int) (-1) q.2 = true
theorem red_good {n K : Nat} {hs : List Hd} (ok : HdOk n K hs) : ∀ (f : Nat) (r ps : List Int), goodS (n : Int) (-1) r = true → goodS (K : Int) (-1) ps = true → goodS (n : Int) (-1) (redF hs f r ps).1 = true ∧ goodS (K : Int) (-1) (redF hs f r ps).2 = true
  | 0, r, ps, h1, h2 => ⟨h1, h2⟩
  | f + 1, r, ps, h1, h2 => by
    rw [redF]
    split
    · exact ⟨h1, h2⟩
    · cases e : hGet hs (lastI r) with
      | none => exact ⟨h1, h2⟩
      | some q =>
        obtain ⟨o1, o2, o3, o4⟩ := ok.ok _ _ e
        exact red_good ok f _ _ (good_unl h1 o1) (good_unl h2 o4)
theorem red_end {n K : Nat} {hs : List Hd} (ok : HdOk n K hs) : ∀ (f : Nat) (r ps : List Int), goodS (n : Int) (-1) r = true → far r ≤ f → (redF hs f r ps).1 = [] ∨ hGet hs (lastI (redF hs f r ps).1) = none
  | 0, r, ps, h1, h2 => by
    refine .inl ?_
    show r = []
    unfold far at h2
    split at h2
    · assumption
    · rename_i h
      have := gsMem _ _ h1 _ (lastI_max h1 h).1
      omega
  | f + 1, r, ps, h1, h2 => by
    rw [redF]
    split
    · rename_i h; exact .inl h
    · rename_i h
      cases e : hGet hs (lastI r) with
      | none => exact .inr e
      | some q =>
        obtain ⟨o1, o2, o3, o4⟩ := ok.ok _ _ e
        have := far_less h1 o1 h o2 o3
        exact red_end ok f _ _ (good_unl h1 o1) (by omega)
theorem dicOf1 {s0 : Sl} {kvs : List (Int × D)} {r : Rho} : dicOf (s0 :: .dic kvs :: r) 1 = some kvs := rfl
theorem dHas_i (kvs : List (Int × D)) (n : Int) : dHas kvs (.int n) = .ok (.bool (dGet kvs n).isSome) := rfl
theorem dAt_i (kvs : List (Int × D)) (n : Int) : dAt kvs (.int n) = M.ofO (dGet kvs n) := rfl
theorem red_whl {n K : Nat} (hn : n ≤ 8) (hK : K ≤ 100) {hs : List Hd} (ok : HdOk n K hs) (s0 s2 s3 s4 s5 : Sl) : ∀ (f : Nat) (r ps : List Int) (N : Nat), goodS (n : Int) (-1) r = true → goodS (K : Int) (-1) ps = true → far r ≤ f → f < N → ∀ x8 x9, ∃ y8 y9,
    whlRun (fun q => evB (ev G_unlike (.and (.cmp .ne (.var 6) (.tup .nil)) (.din (.idx (.var 6) (.neg (.int 1))) 1)) q)) (execs G_unlike (.cons (.unp [8, 9] (.dgt 1 (.idx (.var 6) (.neg (.int 1))))) (.cons (.asg 6 false (.call ("unlike" : Str) (.cons (.var 6) (.cons (.var 8) .nil)))) (.cons (.asg 7 false (.call ("unlike" : Str) (.cons (.var 7) (.cons (.var 9) .nil)))) .nil)))) N [s0, .dic (hs.map hdD), s2, s3, s4, s5, .sh (tD r), .sh (tD ps), x8, x9] =
      .ok (.next [s0, .dic (hs.map hdD), s2, s3, s4, s5, .sh (tD (redF hs f r ps).1), .sh (tD (redF hs f r ps).2), y8, y9])
  | f, r, ps, 0, _, _, _, hN, x8, x9 => by omega
  | f, r, ps, N + 1, h1, h2, hf, hN, x8, x9 => by
    have hc : ∀ b, (r = [] → b = false) → (r ≠ [] → b = (hGet hs (lastI r)).isSome) → evB (ev G_unlike (.and (.cmp .ne (.var 6) (.tup .nil)) (.din (.idx (.var 6) (.neg (.int 1))) 1)) [s0, .dic (hs.map hdD), s2, s3, s4, s5, .sh (tD r), .sh (tD ps), x8, x9]) = .ok b := by
      intro b b1 b2
      by_cases h : r = []
      · rw [b1 h]
        have e0 : (!decide (r = [])) = false := by simp [h]
        simp only [DL.execs, DL.exec, DL.ev, DL.evs, DL.evo, DL.evc, DL.evi, DL.evB_bool, DL.getSh0, DL.getSh_s, DL.getB0, DL.getB0o, DL.getB_s, DL.M.bind_ok, DL.M.bind_ex, DL.M.ofO_some, DL.onNext, if_true, if_false, if_pos, Bool.false_eq_true, DL.put, DL.tyD, List.set_cons_zero, List.set_cons_succ, Bool.not_true, Bool.not_false, DL.forRun, DL.bindT, DL.setAll, DL.items_t, DL.items_l, DL.c_lti, DL.c_lei, DL.c_gti, DL.c_gei, DL.c_eqi, DL.c_nei, DL.wipe, List.map_cons, List.map_nil, DL.fl, reduceCtorEq, false_and, and_false, Nat.reduceEqDiff, DL.noX_ok, DL.items_lD, DL.items_fD, DL.items_tD, DL.mkTup0, DL.mkTup1i, DL.mkTup1t, DL.mkTup2t, DL.mkLst0, DL.mkLst1t, DL.sorted_lD, DL.tuple_lD, DL.len_lD, DL.len_fD, DL.len_tD, c_net, e0]
      · rw [b2 h]
        have e0 : (!decide (r = [])) = true := by simp [h]
        have e1 : (dGet (hs.map hdD) (lastI r)).isSome = (hGet hs (lastI r)).isSome := by rw [dGet_hd, Option.isSome_map]
        simp only [DL.execs, DL.exec, DL.ev, DL.evs, DL.evo, DL.evc, DL.evi, DL.evB_bool, DL.getSh0, DL.getSh_s, DL.getB0, DL.getB0o, DL.getB_s, DL.M.bind_ok, DL.M.bind_ex, DL.M.ofO_some, DL.onNext, if_true, if_false, if_pos, Bool.false_eq_true, DL.put, DL.tyD, List.set_cons_zero, List.set_cons_succ, Bool.not_true, Bool.not_false, DL.forRun, DL.bindT, DL.setAll, DL.items_t, DL.items_l, DL.c_lti, DL.c_lei, DL.c_gti, DL.c_gei, DL.c_eqi, DL.c_nei, DL.wipe, List.map_cons, List.map_nil, DL.fl, reduceCtorEq, false_and, and_false, Nat.reduceEqDiff, DL.noX_ok, DL.items_lD, DL.items_fD, DL.items_tD, DL.mkTup0, DL.mkTup1i, DL.mkTup1t, DL.mkTup2t, DL.mkLst0, DL.mkLst1t, DL.sorted_lD, DL.tuple_lD, DL.len_lD, DL.len_fD, DL.len_tD, c_net, e0, idx_lastI h, dicOf1, dHas_i, e1]
    rw [whlRun]
    by_cases h : r = []
    · rw [hc false (fun _ => rfl) (fun z => absurd h z)]
      have e : redF hs f r ps = (r, ps) := by cases f <;> simp [redF, h]
      rw [e]
      exact ⟨x8, x9, rfl⟩
    · cases e : hGet hs (lastI r) with
      | none =>
        rw [hc false (fun z => absurd z h) (fun _ => by rw [e]; rfl)]
        have e : redF hs f r ps = (r, ps) := by cases f <;> simp [redF, h, e]
        rw [e]
        exact ⟨x8, x9, rfl⟩
      | some q =>
        obtain ⟨o1, o2, o3, o4⟩ := ok.ok _ _ e
        have hlt := far_less h1 o1 h o2 o3
        cases f with
        | zero => omega
        | succ f =>
          have er : redF hs (f + 1) r ps = redF hs f (unl r q.1) (unl ps q.2) := by rw [redF, if_neg h, e]
          obtain ⟨y8, y9, ih⟩ := red_whl hn hK ok s0 s2 s3 s4 s5 f (unl r q.1) (unl ps q.2) N (good_unl h1 o1) (good_unl h2 o4) (by omega) (by omega) (.sh (tD q.1)) (.sh (tD q.2))
          refine ⟨y8, y9, ?_⟩
          rw [er, hc true (fun z => absurd z h) (fun _ => by rw [e]; rfl), M.bind_ok, if_pos rfl]
          have lr : r.length ≤ 1000 := Nat.le_trans (good_len hn h1) (by omega)
          have lq : q.1.length ≤ 1000 := Nat.le_trans (good_len hn o1) (by omega)
          have pl : ps.length ≤ 1000 := by have := gsLen ps (-1) h2 (by omega); omega
          have pq : q.2.length ≤ 1000 := by have := gsLen q.2 (-1) o4 (by omega); omega
          have eg : dGet (hs.map hdD) (lastI r) = some (.tuple [tD q.1, tD q.2]) := by rw [dGet_hd, e]; rfl
          have hb : execs G_unlike (.cons (.unp [8, 9] (.dgt 1 (.idx (.var 6) (.neg (.int 1))))) (.cons (.asg 6 false (.call ("unlike" : Str) (.cons (.var 6) (.cons (.var 8) .nil)))) (.cons (.asg 7 false (.call ("unlike" : Str) (.cons (.var 7) (.cons (.var 9) .nil)))) .nil))) [s0, .dic (hs.map hdD), s2, s3, s4, s5, .sh (tD r), .sh (tD ps), x8, x9] = .ok (.next [s0, .dic (hs.map hdD), s2, s3, s4, s5, .sh (tD (unl r q.1)), .sh (tD (unl ps q.2)), .sh (tD q.1), .sh (tD q.2)]) := by
            simp only [DL.execs, DL.exec, DL.ev, DL.evs, DL.evo, DL.evc, DL.evi, DL.evB_bool, DL.getSh0, DL.getSh_s, DL.getB0, DL.getB0o, DL.getB_s, DL.M.bind_ok, DL.M.bind_ex, DL.M.ofO_some, DL.onNext, if_true, if_false, if_pos, Bool.false_eq_true, DL.put, DL.tyD, List.set_cons_zero, List.set_cons_succ, Bool.not_true, Bool.not_false, DL.forRun, DL.bindT, DL.setAll, DL.items_t, DL.items_l, DL.c_lti, DL.c_lei, DL.c_gti, DL.c_gei, DL.c_eqi, DL.c_nei, DL.wipe, List.map_cons, List.map_nil, DL.fl, reduceCtorEq, false_and, and_false, Nat.reduceEqDiff, DL.noX_ok, DL.items_lD, DL.items_fD, DL.items_tD, DL.mkTup0, DL.mkTup1i, DL.mkTup1t, DL.mkTup2t, DL.mkLst0, DL.mkLst1t, DL.sorted_lD, DL.tuple_lD, DL.len_lD, DL.len_fD, DL.len_tD, dicOf1, idx_lastI h, dAt_i, eg, g_parted_ways_unlike, m_unlike_ok lr lq, m_unlike_ok pl pq]
          rw [hb]
          exact ih

end LW

namespace LW
open DL
open PySem (Str PyData)
def lzD (t : List Int) : D := .list (t.map .int)
def partF : Nat → List (List Int) → List Hd → List Int → List (List Int) → List Int × List (List Int)
  | _, [], _, own, told => (own, told)
  | k, a :: F, hs, own, told => if (redF hs 9 a []).1 = [] then partF (k + 1) F hs own (told ++ [(redF hs 9 a []).2])
    else partF (k + 1) F (hs ++ [(lastI (redF hs 9 a []).1, ((redF hs 9 a []).1, unl (redF hs 9 a []).2 [(k : Int)]))]) (own ++ [(k : Int)]) (told ++ [[(k : Int)]])
theorem hGet_snoc {hs : List Hd} {p : Int} {q : List Int × List Int} {r : Int} {s : List Int × List Int} (h : hGet (hs ++ [(p, q)]) r = some s) : hGet hs r = some s ∨ (r = p ∧ s = q) := by
  unfold hGet at h ⊢
  rw [List.find?_append] at h
  cases e : hs.find? (fun h => decide (h.1 = r)) with
  | some x => rw [e] at h; left; exact h
  | none =>
    rw [e] at h
    by_cases z : p = r
    · subst z
      simp at h
      exact .inr ⟨rfl, h.symm⟩
    · simp [z] at h
theorem hd_mono {n K : Nat} {hs : List Hd} (ok : HdOk n K hs) : HdOk n (K + 1) hs := ⟨fun p q h => by
  obtain ⟨a, b, c, d⟩ := ok.ok p q h
  exact ⟨a, b, c, goodS_mono (by omega) _ _ d⟩⟩
theorem one_good (k : Nat) : goodS ((k + 1 : Nat) : Int) (-1) [(k : Int)] = true := by
  rw [goodS, goodS, Bool.and_true, Bool.and_eq_true]
  exact ⟨decide_eq_true (by omega), decide_eq_true (by omega)⟩
theorem ex_cons {G : Gm} {s : S} {ss : Ss} {r r2 : Rho} (h : exec G s r = .ok (.next r2)) : execs G (.cons s ss) r = execs G ss r2 := by
  show onNext (exec G s r) _ = _
  rw [h]
  rfl
theorem part_for {n : Nat} (hn : n ≤ 8) {F0 : D} : ∀ (F : List (List Int)) (k : Nat) (hs : List Hd) (own : List Int) (told : List (List Int)), (∀ a ∈ F, goodS (n : Int) (-1) a = true) → HdOk n k hs → k + F.length ≤ 100 → hs.length ≤ k → own.length ≤ k → told.length ≤ k →
    ∀ x4 x5 x6 x7 x8 x9, ∃ (hs' : List Hd) (y4 y5 y6 y7 y8 y9 : Sl), forRun (.tup [4, 5]) (execs G_unlike (.cons (.asg 6 false (.var 5)) (.cons (.asg 7 false (.tup .nil)) (.cons (.whl (.and (.cmp .ne (.var 6) (.tup .nil)) (.din (.idx (.var 6) (.neg (.int 1))) 1)) (.cons (.unp [8, 9] (.dgt 1 (.idx (.var 6) (.neg (.int 1))))) (.cons (.asg 6 false (.call ("unlike" : Str) (.cons (.var 6) (.cons (.var 8) .nil)))) (.cons (.asg 7 false (.call ("unlike" : Str) (.cons (.var 7) (.cons (.var 9) .nil)))) .nil)))) (.cons (.ifs (.cmp .ne (.var 6) (.tup .nil)) (.cons (.app 2 (.var 4)) (.cons (.dput 1 (.idx (.var 6) (.neg (.int 1))) (.tup (.cons (.var 6) (.cons (.call ("unlike" : Str) (.cons (.var 7) (.cons (.tup (.cons (.var 4) .nil)) .nil))) .nil)))) (.cons (.asg 7 false (.tup (.cons (.var 4) .nil))) .nil))) .nil) (.cons (.app 3 (.blt .list (.cons (.var 7) .nil))) .nil)))))) (enumD (k : Int) (F.map tD)) [.sh F0, .dic (hs.map hdD), .own (.list (own.map .int)), .own (.list (told.map lzD)), x4, x5, x6, x7, x8, x9] =
      .ok (.next [.sh F0, .dic (hs'.map hdD), .own (.list ((partF k F hs own told).1.map .int)), .own (.list ((partF k F hs own told).2.map lzD)), y4, y5, y6, y7, y8, y9])
  | [], k, hs, own, told, _, _, _, _, _, _, x4, x5, x6, x7, x8, x9 => ⟨hs, x4, x5, x6, x7, x8, x9, rfl⟩
  | a :: F, k, hs, own, told, hF, ok, hl, l1, l2, l3, x4, x5, x6, x7, x8, x9 => by
    have ga := hF a List.mem_cons_self
    rw [List.length_cons] at hl
    have fa := far_le ga
    have rg := red_good ok 9 a [] ga (by rfl)
    have re := red_end ok 9 a [] ga (by omega)
    obtain ⟨y8, y9, hw⟩ := red_whl hn (by omega) ok (.sh F0) (.own (.list (own.map .int))) (.own (.list (told.map lzD))) (.sh (.int (k : Int))) (.sh (tD a)) 9 a [] whlFuel ga (by rfl) (by omega) (by unfold whlFuel; omega) x8 x9
    generalize hr : redF hs 9 a [] = q at *
    have lt1 : (told.map lzD).length < line := by rw [List.length_map]; exact Nat.lt_of_lt_of_le (Nat.lt_succ_self _) (line256 (by omega))
    have lo1 : (own.map PyData.int).length < line := by rw [List.length_map]; exact Nat.lt_of_lt_of_le (Nat.lt_succ_self _) (line256 (by omega))
    have lh1 : (hs.map hdD).length < line := by rw [List.length_map]; exact Nat.lt_of_lt_of_le (Nat.lt_succ_self _) (line256 (by omega))
    have bl : ∀ t : List Int, bltD .list [tD t] = .ok (lzD t) := fun _ => rfl
    have body : ∀ r, onNext (exec G_unlike (.ifs (.cmp .ne (.var 6) (.tup .nil)) (.cons (.app 2 (.var 4)) (.cons (.dput 1 (.idx (.var 6) (.neg (.int 1))) (.tup (.cons (.var 6) (.cons (.call ("unlike" : Str) (.cons (.var 7) (.cons (.tup (.cons (.var 4) .nil)) .nil))) .nil)))) (.cons (.asg 7 false (.tup (.cons (.var 4) .nil))) .nil))) .nil) [.sh F0, .dic (hs.map hdD), .own (.list (own.map .int)), .own (.list (told.map lzD)), .sh (.int (k : Int)), .sh (tD a), .sh (tD q.1), .sh (tD q.2), y8, y9]) (fun r => onNext (exec G_unlike (.app 3 (.blt .list (.cons (.var 7) .nil))) r) fun r => .ok (.next r)) = r →
        execs G_unlike (.cons (.asg 6 false (.var 5)) (.cons (.asg 7 false (.tup .nil)) (.cons (.whl (.and (.cmp .ne (.var 6) (.tup .nil)) (.din (.idx (.var 6) (.neg (.int 1))) 1)) (.cons (.unp [8, 9] (.dgt 1 (.idx (.var 6) (.neg (.int 1))))) (.cons (.asg 6 false (.call ("unlike" : Str) (.cons (.var 6) (.cons (.var 8) .nil)))) (.cons (.asg 7 false (.call ("unlike" : Str) (.cons (.var 7) (.cons (.var 9) .nil)))) .nil)))) (.cons (.ifs (.cmp .ne (.var 6) (.tup .nil)) (.cons (.app 2 (.var 4)) (.cons (.dput 1 (.idx (.var 6) (.neg (.int 1))) (.tup (.cons (.var 6) (.cons (.call ("unlike" : Str) (.cons (.var 7) (.cons (.tup (.cons (.var 4) .nil)) .nil))) .nil)))) (.cons (.asg 7 false (.tup (.cons (.var 4) .nil))) .nil))) .nil) (.cons (.app 3 (.blt .list (.cons (.var 7) .nil))) .nil))))) [.sh F0, .dic (hs.map hdD), .own (.list (own.map .int)), .own (.list (told.map lzD)), .sh (.int (k : Int)), .sh (tD a), x6, x7, x8, x9] = r := by
      intro r h
      rw [← h]
      have e6 : exec G_unlike (.asg 6 false (.var 5)) [.sh F0, .dic (hs.map hdD), .own (.list (own.map .int)), .own (.list (told.map lzD)), .sh (.int (k : Int)), .sh (tD a), x6, x7, x8, x9] = .ok (.next [.sh F0, .dic (hs.map hdD), .own (.list (own.map .int)), .own (.list (told.map lzD)), .sh (.int (k : Int)), .sh (tD a), .sh (tD a), x7, x8, x9]) := by simp only [DL.execs, DL.exec, DL.ev, DL.evs, DL.evo, DL.evc, DL.evi, DL.evB_bool, DL.getSh0, DL.getSh_s, DL.getB0, DL.getB0o, DL.getB_s, DL.M.bind_ok, DL.M.bind_ex, DL.M.ofO_some, DL.onNext, if_true, if_false, if_pos, Bool.false_eq_true, DL.put, DL.tyD, List.set_cons_zero, List.set_cons_succ, Bool.not_true, Bool.not_false, DL.forRun, DL.bindT, DL.setAll, DL.items_t, DL.items_l, DL.c_lti, DL.c_lei, DL.c_gti, DL.c_gei, DL.c_eqi, DL.c_nei, DL.wipe, List.map_cons, List.map_nil, DL.fl, reduceCtorEq, false_and, and_false, Nat.reduceEqDiff, DL.noX_ok, DL.items_lD, DL.items_fD, DL.items_tD, DL.mkTup0, DL.mkTup1i, DL.mkTup1t, DL.mkTup2t, DL.mkLst0, DL.mkLst1t, DL.sorted_lD, DL.tuple_lD, DL.len_lD, DL.len_fD, DL.len_tD]
      have e7 : exec G_unlike (.asg 7 false (.tup .nil)) [.sh F0, .dic (hs.map hdD), .own (.list (own.map .int)), .own (.list (told.map lzD)), .sh (.int (k : Int)), .sh (tD a), .sh (tD a), x7, x8, x9] = .ok (.next [.sh F0, .dic (hs.map hdD), .own (.list (own.map .int)), .own (.list (told.map lzD)), .sh (.int (k : Int)), .sh (tD a), .sh (tD a), .sh (tD []), x8, x9]) := by simp only [DL.execs, DL.exec, DL.ev, DL.evs, DL.evo, DL.evc, DL.evi, DL.evB_bool, DL.getSh0, DL.getSh_s, DL.getB0, DL.getB0o, DL.getB_s, DL.M.bind_ok, DL.M.bind_ex, DL.M.ofO_some, DL.onNext, if_true, if_false, if_pos, Bool.false_eq_true, DL.put, DL.tyD, List.set_cons_zero, List.set_cons_succ, Bool.not_true, Bool.not_false, DL.forRun, DL.bindT, DL.setAll, DL.items_t, DL.items_l, DL.c_lti, DL.c_lei, DL.c_gti, DL.c_gei, DL.c_eqi, DL.c_nei, DL.wipe, List.map_cons, List.map_nil, DL.fl, reduceCtorEq, false_and, and_false, Nat.reduceEqDiff, DL.noX_ok, DL.items_lD, DL.items_fD, DL.items_tD, DL.mkTup0, DL.mkTup1i, DL.mkTup1t, DL.mkTup2t, DL.mkLst0, DL.mkLst1t, DL.sorted_lD, DL.tuple_lD, DL.len_lD, DL.len_fD, DL.len_tD]
      have e8 : exec G_unlike (.whl (.and (.cmp .ne (.var 6) (.tup .nil)) (.din (.idx (.var 6) (.neg (.int 1))) 1)) (.cons (.unp [8, 9] (.dgt 1 (.idx (.var 6) (.neg (.int 1))))) (.cons (.asg 6 false (.call ("unlike" : Str) (.cons (.var 6) (.cons (.var 8) .nil)))) (.cons (.asg 7 false (.call ("unlike" : Str) (.cons (.var 7) (.cons (.var 9) .nil)))) .nil)))) [.sh F0, .dic (hs.map hdD), .own (.list (own.map .int)), .own (.list (told.map lzD)), .sh (.int (k : Int)), .sh (tD a), .sh (tD a), .sh (tD []), x8, x9] = .ok (.next [.sh F0, .dic (hs.map hdD), .own (.list (own.map .int)), .own (.list (told.map lzD)), .sh (.int (k : Int)), .sh (tD a), .sh (tD q.1), .sh (tD q.2), y8, y9]) := hw
      rw [ex_cons e6, ex_cons e7, ex_cons e8]
      rfl
    have next : ∀ (hs' : List Hd) (own' : List Int) (told' : List (List Int)) (y7 : Sl), execs G_unlike (.cons (.asg 6 false (.var 5)) (.cons (.asg 7 false (.tup .nil)) (.cons (.whl (.and (.cmp .ne (.var 6) (.tup .nil)) (.din (.idx (.var 6) (.neg (.int 1))) 1)) (.cons (.unp [8, 9] (.dgt 1 (.idx (.var 6) (.neg (.int 1))))) (.cons (.asg 6 false (.call ("unlike" : Str) (.cons (.var 6) (.cons (.var 8) .nil)))) (.cons (.asg 7 false (.call ("unlike" : Str) (.cons (.var 7) (.cons (.var 9) .nil)))) .nil)))) (.cons (.ifs (.cmp .ne (.var 6) (.tup .nil)) (.cons (.app 2 (.var 4)) (.cons (.dput 1 (.idx (.var 6) (.neg (.int 1))) (.tup (.cons (.var 6) (.cons (.call ("unlike" : Str) (.cons (.var 7) (.cons (.tup (.cons (.var 4) .nil)) .nil))) .nil)))) (.cons (.asg 7 false (.tup (.cons (.var 4) .nil))) .nil))) .nil) (.cons (.app 3 (.blt .list (.cons (.var 7) .nil))) .nil))))) [.sh F0, .dic (hs.map hdD), .own (.list (own.map .int)), .own (.list (told.map lzD)), .sh (.int (k : Int)), .sh (tD a), x6, x7, x8, x9] = .ok (.next [.sh F0, .dic (hs'.map hdD), .own (.list (own'.map .int)), .own (.list (told'.map lzD)), .sh (.int (k : Int)), .sh (tD a), .sh (tD q.1), y7, unD y8, unD y9]) ∨ execs G_unlike (.cons (.asg 6 false (.var 5)) (.cons (.asg 7 false (.tup .nil)) (.cons (.whl (.and (.cmp .ne (.var 6) (.tup .nil)) (.din (.idx (.var 6) (.neg (.int 1))) 1)) (.cons (.unp [8, 9] (.dgt 1 (.idx (.var 6) (.neg (.int 1))))) (.cons (.asg 6 false (.call ("unlike" : Str) (.cons (.var 6) (.cons (.var 8) .nil)))) (.cons (.asg 7 false (.call ("unlike" : Str) (.cons (.var 7) (.cons (.var 9) .nil)))) .nil)))) (.cons (.ifs (.cmp .ne (.var 6) (.tup .nil)) (.cons (.app 2 (.var 4)) (.cons (.dput 1 (.idx (.var 6) (.neg (.int 1))) (.tup (.cons (.var 6) (.cons (.call ("unlike" : Str) (.cons (.var 7) (.cons (.tup (.cons (.var 4) .nil)) .nil))) .nil)))) (.cons (.asg 7 false (.tup (.cons (.var 4) .nil))) .nil))) .nil) (.cons (.app 3 (.blt .list (.cons (.var 7) .nil))) .nil))))) [.sh F0, .dic (hs.map hdD), .own (.list (own.map .int)), .own (.list (told.map lzD)), .sh (.int (k : Int)), .sh (tD a), x6, x7, x8, x9] = .ok (.next [.sh F0, .dic (hs'.map hdD), .own (.list (own'.map .int)), .own (.list (told'.map lzD)), .sh (.int (k : Int)), .sh (tD a), .sh (tD q.1), y7, y8, y9]) →
        HdOk n (k + 1) hs' → hs'.length ≤ k + 1 → own'.length ≤ k + 1 → told'.length ≤ k + 1 → partF k (a :: F) hs own told = partF (k + 1) F hs' own' told' →
        ∃ (hs' : List Hd) (y4 y5 y6 y7 y8 y9 : Sl), forRun (.tup [4, 5]) (execs G_unlike (.cons (.asg 6 false (.var 5)) (.cons (.asg 7 false (.tup .nil)) (.cons (.whl (.and (.cmp .ne (.var 6) (.tup .nil)) (.din (.idx (.var 6) (.neg (.int 1))) 1)) (.cons (.unp [8, 9] (.dgt 1 (.idx (.var 6) (.neg (.int 1))))) (.cons (.asg 6 false (.call ("unlike" : Str) (.cons (.var 6) (.cons (.var 8) .nil)))) (.cons (.asg 7 false (.call ("unlike" : Str) (.cons (.var 7) (.cons (.var 9) .nil)))) .nil)))) (.cons (.ifs (.cmp .ne (.var 6) (.tup .nil)) (.cons (.app 2 (.var 4)) (.cons (.dput 1 (.idx (.var 6) (.neg (.int 1))) (.tup (.cons (.var 6) (.cons (.call ("unlike" : Str) (.cons (.var 7) (.cons (.tup (.cons (.var 4) .nil)) .nil))) .nil)))) (.cons (.asg 7 false (.tup (.cons (.var 4) .nil))) .nil))) .nil) (.cons (.app 3 (.blt .list (.cons (.var 7) .nil))) .nil)))))) (enumD (k : Int) ((a :: F).map tD)) [.sh F0, .dic (hs.map hdD), .own (.list (own.map .int)), .own (.list (told.map lzD)), x4, x5, x6, x7, x8, x9] =
          .ok (.next [.sh F0, .dic (hs'.map hdD), .own (.list ((partF k (a :: F) hs own told).1.map .int)), .own (.list ((partF k (a :: F) hs own told).2.map lzD)), y4, y5, y6, y7, y8, y9]) := by
      intro hs' own' told' y7 hb o1 o2 o3 o4 e
      rw [e]
      have ek : (k : Int) + 1 = ((k + 1 : Nat) : Int) := by omega
      rcases hb with hb | hb
      · obtain ⟨hs2, z4, z5, z6, z7, z8, z9, ih⟩ := part_for hn F (k + 1) hs' own' told' (fun b h => hF b (List.mem_cons_of_mem _ h)) o1 (by omega) o2 o3 o4 (.sh (.int (k : Int))) (.sh (tD a)) (.sh (tD q.1)) y7 (unD y8) (unD y9)
        refine ⟨hs2, z4, z5, z6, z7, z8, z9, ?_⟩
        rw [List.map_cons, enumD, ek]
        show ((M.ofO (some ([.sh F0, .dic (hs.map hdD), .own (.list (own.map .int)), .own (.list (told.map lzD)), .sh (.int (k : Int)), .sh (tD a), x6, x7, x8, x9] : Rho))).bind fun r1 => (execs G_unlike (.cons (.asg 6 false (.var 5)) (.cons (.asg 7 false (.tup .nil)) (.cons (.whl (.and (.cmp .ne (.var 6) (.tup .nil)) (.din (.idx (.var 6) (.neg (.int 1))) 1)) (.cons (.unp [8, 9] (.dgt 1 (.idx (.var 6) (.neg (.int 1))))) (.cons (.asg 6 false (.call ("unlike" : Str) (.cons (.var 6) (.cons (.var 8) .nil)))) (.cons (.asg 7 false (.call ("unlike" : Str) (.cons (.var 7) (.cons (.var 9) .nil)))) .nil)))) (.cons (.ifs (.cmp .ne (.var 6) (.tup .nil)) (.cons (.app 2 (.var 4)) (.cons (.dput 1 (.idx (.var 6) (.neg (.int 1))) (.tup (.cons (.var 6) (.cons (.call ("unlike" : Str) (.cons (.var 7) (.cons (.tup (.cons (.var 4) .nil)) .nil))) .nil)))) (.cons (.asg 7 false (.tup (.cons (.var 4) .nil))) .nil))) .nil) (.cons (.app 3 (.blt .list (.cons (.var 7) .nil))) .nil))))) r1).bind _) = _
        rw [M.ofO_some, M.bind_ok, hb]
        exact ih
      · obtain ⟨hs2, z4, z5, z6, z7, z8, z9, ih⟩ := part_for hn F (k + 1) hs' own' told' (fun b h => hF b (List.mem_cons_of_mem _ h)) o1 (by omega) o2 o3 o4 (.sh (.int (k : Int))) (.sh (tD a)) (.sh (tD q.1)) y7 y8 y9
        refine ⟨hs2, z4, z5, z6, z7, z8, z9, ?_⟩
        rw [List.map_cons, enumD, ek]
        show ((M.ofO (some ([.sh F0, .dic (hs.map hdD), .own (.list (own.map .int)), .own (.list (told.map lzD)), .sh (.int (k : Int)), .sh (tD a), x6, x7, x8, x9] : Rho))).bind fun r1 => (execs G_unlike (.cons (.asg 6 false (.var 5)) (.cons (.asg 7 false (.tup .nil)) (.cons (.whl (.and (.cmp .ne (.var 6) (.tup .nil)) (.din (.idx (.var 6) (.neg (.int 1))) 1)) (.cons (.unp [8, 9] (.dgt 1 (.idx (.var 6) (.neg (.int 1))))) (.cons (.asg 6 false (.call ("unlike" : Str) (.cons (.var 6) (.cons (.var 8) .nil)))) (.cons (.asg 7 false (.call ("unlike" : Str) (.cons (.var 7) (.cons (.var 9) .nil)))) .nil)))) (.cons (.ifs (.cmp .ne (.var 6) (.tup .nil)) (.cons (.app 2 (.var 4)) (.cons (.dput 1 (.idx (.var 6) (.neg (.int 1))) (.tup (.cons (.var 6) (.cons (.call ("unlike" : Str) (.cons (.var 7) (.cons (.tup (.cons (.var 4) .nil)) .nil))) .nil)))) (.cons (.asg 7 false (.tup (.cons (.var 4) .nil))) .nil))) .nil) (.cons (.app 3 (.blt .list (.cons (.var 7) .nil))) .nil))))) r1).bind _) = _
        rw [M.ofO_some, M.bind_ok, hb]
        exact ih
    by_cases hz : q.1 = []
    · refine next hs own (told ++ [q.2]) (.sh (tD q.2)) (.inr (body _ ?_)) (hd_mono ok) (by omega) (by omega) (by rw [List.length_append, List.length_singleton]; omega) (by rw [partF, hr, if_pos hz])
      have e0 : (!decide (q.1 = [])) = false := by simp [hz]
      have ea : told.map lzD ++ [lzD q.2] = (told ++ [q.2]).map lzD := by rw [List.map_append]; rfl
      simp only [DL.execs, DL.exec, DL.ev, DL.evs, DL.evo, DL.evc, DL.evi, DL.evB_bool, DL.getSh0, DL.getSh_s, DL.getB0, DL.getB0o, DL.getB_s, DL.M.bind_ok, DL.M.bind_ex, DL.M.ofO_some, DL.onNext, if_true, if_false, if_pos, Bool.false_eq_true, DL.put, DL.tyD, List.set_cons_zero, List.set_cons_succ, Bool.not_true, Bool.not_false, DL.forRun, DL.bindT, DL.setAll, DL.items_t, DL.items_l, DL.c_lti, DL.c_lei, DL.c_gti, DL.c_gei, DL.c_eqi, DL.c_nei, DL.wipe, List.map_cons, List.map_nil, DL.fl, reduceCtorEq, false_and, and_false, Nat.reduceEqDiff, DL.noX_ok, DL.items_lD, DL.items_fD, DL.items_tD, DL.mkTup0, DL.mkTup1i, DL.mkTup1t, DL.mkTup2t, DL.mkLst0, DL.mkLst1t, DL.sorted_lD, DL.tuple_lD, DL.len_lD, DL.len_fD, DL.len_tD, c_net, e0, bl, List.getElem?_cons_succ, List.getElem?_cons_zero, lt1, ea]
    · have hg : hGet hs (lastI q.1) = none := re.resolve_left hz
      have gk := one_good k
      have gm := goodS_mono (p := (k : Int)) (n := ((k + 1 : Nat) : Int)) (by omega) _ _ rg.2
      have ok' : HdOk n (k + 1) (hs ++ [(lastI q.1, (q.1, unl q.2 [(k : Int)]))]) := ⟨fun p s h => by
        rcases hGet_snoc h with h | ⟨h1, h2⟩
        · exact (hd_mono ok).ok p s h
        · subst h1 h2; exact ⟨rg.1, hz, rfl, good_unl gm gk⟩⟩
      refine next (hs ++ [(lastI q.1, (q.1, unl q.2 [(k : Int)]))]) (own ++ [(k : Int)]) (told ++ [[(k : Int)]]) (.sh (tD [(k : Int)])) (.inl (body _ ?_)) ok' (by rw [List.length_append, List.length_singleton]; omega) (by rw [List.length_append, List.length_singleton]; omega) (by rw [List.length_append, List.length_singleton]; omega) (by rw [partF, hr, if_neg hz])
      have e0 : (!decide (q.1 = [])) = true := by simp [hz]
      have ea : told.map lzD ++ [lzD [(k : Int)]] = (told ++ [[(k : Int)]]).map lzD := by rw [List.map_append]; rfl
      have eo : own.map PyData.int ++ [PyData.int (k : Int)] = (own ++ [(k : Int)]).map .int := by rw [List.map_append]; rfl
      have lm : q.2.length ≤ 1000 := by have := gsLen q.2 (-1) rg.2 (by omega); omega
      have eu := m_unlike_ok (a := q.2) (b := [(k : Int)]) lm (by simp)
      have et : mkTup [tD q.1, tD (unl q.2 [(k : Int)])] = .ok (.tuple [tD q.1, tD (unl q.2 [(k : Int)])]) := mkTup_ok (by show 2 ≤ line; decide)
      have ed : dPut (hs.map hdD) (lastI q.1) (.tuple [tD q.1, tD (unl q.2 [(k : Int)])]) = (hs ++ [(lastI q.1, (q.1, unl q.2 [(k : Int)]))]).map hdD := dPut_hd (q := (q.1, unl q.2 [(k : Int)])) hg
      have es : ∀ d, dSet (hs.map hdD) d (.int (lastI q.1)) = .ok (dPut (hs.map hdD) (lastI q.1) d) := fun _ => rfl
      have i0 := idx_lastI hz
      simp only [DL.execs, DL.exec, DL.ev, DL.evs, DL.evo, DL.evc, DL.evi, DL.evB_bool, DL.getSh0, DL.getSh_s, DL.getB0, DL.getB0o, DL.getB_s, DL.M.bind_ok, DL.M.bind_ex, DL.M.ofO_some, DL.onNext, if_true, if_false, if_pos, Bool.false_eq_true, DL.put, DL.tyD, List.set_cons_zero, List.set_cons_succ, Bool.not_true, Bool.not_false, DL.forRun, DL.bindT, DL.setAll, DL.items_t, DL.items_l, DL.c_lti, DL.c_lei, DL.c_gti, DL.c_gei, DL.c_eqi, DL.c_nei, DL.wipe, List.map_cons, List.map_nil, DL.fl, reduceCtorEq, false_and, and_false, Nat.reduceEqDiff, DL.noX_ok, DL.items_lD, DL.items_fD, DL.items_tD, DL.mkTup0, DL.mkTup1i, DL.mkTup1t, DL.mkTup2t, DL.mkLst0, DL.mkLst1t, DL.sorted_lD, DL.tuple_lD, DL.len_lD, DL.len_fD, DL.len_tD, c_net, e0, List.getElem?_cons_succ, List.getElem?_cons_zero, lo1, eo]
      have et' : mkTup [tD q.1, tD (unl q.2 [(k : Int)])] = .ok (fD [q.1, unl q.2 [(k : Int)]]) := mkTup2t _ _
      have ef : (fD [q.1, unl q.2 [(k : Int)]]) = PyData.tuple [tD q.1, tD (unl q.2 [(k : Int)])] := rfl
      simp only [DL.execs, DL.exec, DL.ev, DL.evs, DL.evo, DL.evc, DL.evi, DL.evB_bool, DL.getSh0, DL.getSh_s, DL.getB0, DL.getB0o, DL.getB_s, DL.M.bind_ok, DL.M.bind_ex, DL.M.ofO_some, DL.onNext, if_true, if_false, if_pos, Bool.false_eq_true, DL.put, DL.tyD, List.set_cons_zero, List.set_cons_succ, Bool.not_true, Bool.not_false, DL.forRun, DL.bindT, DL.setAll, DL.items_t, DL.items_l, DL.c_lti, DL.c_lei, DL.c_gti, DL.c_gei, DL.c_eqi, DL.c_nei, DL.wipe, List.map_cons, List.map_nil, DL.fl, reduceCtorEq, false_and, and_false, Nat.reduceEqDiff, DL.noX_ok, DL.items_lD, DL.items_fD, DL.items_tD, DL.mkTup0, DL.mkTup1i, DL.mkTup1t, DL.mkTup2t, DL.mkLst0, DL.mkLst1t, DL.sorted_lD, DL.tuple_lD, DL.len_lD, DL.len_fD, DL.len_tD, g_parted_ways_unlike, eu, et, ef, dicOf1, i0, es, ed, lh1, killD, unD, List.map_cons, List.map_nil, bl, List.getElem?_cons_succ, List.getElem?_cons_zero, lt1, ea]

end LW

namespace LW
open DL
open PySem (Str PyData)
def zD (l : List Int) : D := .list (l.map .int)
theorem m_parted_ok {n : Nat} (hn : n ≤ 8) {F : List (List Int)} (hF : ∀ a ∈ F, goodS (n : Int) (-1) a = true) (hl : F.length ≤ 100) : m_parted_ways [fD F] = .ok (.tuple [zD (partF 0 F [] [] []).1, .list ((partF 0 F [] [] []).2.map lzD)]) := by
  obtain ⟨hs', y4, y5, y6, y7, y8, y9, h⟩ := part_for hn (F0 := fD F) F 0 [] [] [] hF ⟨fun p q h => by cases h⟩ (by omega) (Nat.le_refl _) (Nat.le_refl _) (Nat.le_refl _) .un .un .un .un .un .un
  refine run_ret [.sh (fD F), .un, .un, .un, .un, .un, .un, .un, .un, .un] rfl rfl ?_
  have h : forRun (.tup [4, 5]) (execs G_unlike (.cons (.asg 6 false (.var 5)) (.cons (.asg 7 false (.tup .nil)) (.cons (.whl (.and (.cmp .ne (.var 6) (.tup .nil)) (.din (.idx (.var 6) (.neg (.int 1))) 1)) (.cons (.unp [8, 9] (.dgt 1 (.idx (.var 6) (.neg (.int 1))))) (.cons (.asg 6 false (.call ("unlike" : Str) (.cons (.var 6) (.cons (.var 8) .nil)))) (.cons (.asg 7 false (.call ("unlike" : Str) (.cons (.var 7) (.cons (.var 9) .nil)))) .nil)))) (.cons (.ifs (.cmp .ne (.var 6) (.tup .nil)) (.cons (.app 2 (.var 4)) (.cons (.dput 1 (.idx (.var 6) (.neg (.int 1))) (.tup (.cons (.var 6) (.cons (.call ("unlike" : Str) (.cons (.var 7) (.cons (.tup (.cons (.var 4) .nil)) .nil))) .nil)))) (.cons (.asg 7 false (.tup (.cons (.var 4) .nil))) .nil))) .nil) (.cons (.app 3 (.blt .list (.cons (.var 7) .nil))) .nil)))))) (enumD 0 (F.map tD)) [.sh (fD F), .dic [], .own (lD []), .own (lD []), .un, .un, .un, .un, .un, .un] =
      .ok (.next [.sh (fD F), .dic (hs'.map hdD), .own (zD (partF 0 F [] [] []).1), .own (.list ((partF 0 F [] [] []).2.map lzD)), y4, y5, y6, y7, y8, y9]) := h
  generalize partF 0 F [] [] [] = R at *
  have mt : mkTup [zD R.1, .list (R.2.map lzD)] = .ok (.tuple [zD R.1, .list (R.2.map lzD)]) := mkTup_ok (by show 2 ≤ line; decide)
  have mo : mkOwn (lD []) = .own (lD []) := rfl
  have e1 : exec G_unlike (.dnew 1) [.sh (fD F), .un, .un, .un, .un, .un, .un, .un, .un, .un] = .ok (.next [.sh (fD F), .dic [], .un, .un, .un, .un, .un, .un, .un, .un]) := rfl
  have e2 : exec G_unlike (.asg 2 true (.lst .nil)) [.sh (fD F), .dic [], .un, .un, .un, .un, .un, .un, .un, .un] = .ok (.next [.sh (fD F), .dic [], .own (lD []), .un, .un, .un, .un, .un, .un, .un]) := by simp only [DL.execs, DL.exec, DL.ev, DL.evs, DL.evo, DL.evc, DL.evi, DL.evB_bool, DL.getSh0, DL.getSh_s, DL.getB0, DL.getB0o, DL.getB_s, DL.M.bind_ok, DL.M.bind_ex, DL.M.ofO_some, DL.onNext, if_true, if_false, if_pos, Bool.false_eq_true, DL.put, DL.tyD, List.set_cons_zero, List.set_cons_succ, Bool.not_true, Bool.not_false, DL.forRun, DL.bindT, DL.setAll, DL.items_t, DL.items_l, DL.c_lti, DL.c_lei, DL.c_gti, DL.c_gei, DL.c_eqi, DL.c_nei, DL.wipe, List.map_cons, List.map_nil, DL.fl, reduceCtorEq, false_and, and_false, Nat.reduceEqDiff, DL.noX_ok, DL.items_lD, DL.items_fD, DL.items_tD, DL.mkTup0, DL.mkTup1i, DL.mkTup1t, DL.mkTup2t, DL.mkLst0, DL.mkLst1t, DL.sorted_lD, DL.tuple_lD, DL.len_lD, DL.len_fD, DL.len_tD, eq_self, and_self, mo]
  have e3 : exec G_unlike (.asg 3 true (.lst .nil)) [.sh (fD F), .dic [], .own (lD []), .un, .un, .un, .un, .un, .un, .un] = .ok (.next [.sh (fD F), .dic [], .own (lD []), .own (lD []), .un, .un, .un, .un, .un, .un]) := by simp only [DL.execs, DL.exec, DL.ev, DL.evs, DL.evo, DL.evc, DL.evi, DL.evB_bool, DL.getSh0, DL.getSh_s, DL.getB0, DL.getB0o, DL.getB_s, DL.M.bind_ok, DL.M.bind_ex, DL.M.ofO_some, DL.onNext, if_true, if_false, if_pos, Bool.false_eq_true, DL.put, DL.tyD, List.set_cons_zero, List.set_cons_succ, Bool.not_true, Bool.not_false, DL.forRun, DL.bindT, DL.setAll, DL.items_t, DL.items_l, DL.c_lti, DL.c_lei, DL.c_gti, DL.c_gei, DL.c_eqi, DL.c_nei, DL.wipe, List.map_cons, List.map_nil, DL.fl, reduceCtorEq, false_and, and_false, Nat.reduceEqDiff, DL.noX_ok, DL.items_lD, DL.items_fD, DL.items_tD, DL.mkTup0, DL.mkTup1i, DL.mkTup1t, DL.mkTup2t, DL.mkLst0, DL.mkLst1t, DL.sorted_lD, DL.tuple_lD, DL.len_lD, DL.len_fD, DL.len_tD, eq_self, and_self, mo]
  have e4 : exec G_unlike (.for_ (.tup [4, 5]) (.enum (.var 0)) (.cons (.asg 6 false (.var 5)) (.cons (.asg 7 false (.tup .nil)) (.cons (.whl (.and (.cmp .ne (.var 6) (.tup .nil)) (.din (.idx (.var 6) (.neg (.int 1))) 1)) (.cons (.unp [8, 9] (.dgt 1 (.idx (.var 6) (.neg (.int 1))))) (.cons (.asg 6 false (.call ("unlike" : Str) (.cons (.var 6) (.cons (.var 8) .nil)))) (.cons (.asg 7 false (.call ("unlike" : Str) (.cons (.var 7) (.cons (.var 9) .nil)))) .nil)))) (.cons (.ifs (.cmp .ne (.var 6) (.tup .nil)) (.cons (.app 2 (.var 4)) (.cons (.dput 1 (.idx (.var 6) (.neg (.int 1))) (.tup (.cons (.var 6) (.cons (.call ("unlike" : Str) (.cons (.var 7) (.cons (.tup (.cons (.var 4) .nil)) .nil))) .nil)))) (.cons (.asg 7 false (.tup (.cons (.var 4) .nil))) .nil))) .nil) (.cons (.app 3 (.blt .list (.cons (.var 7) .nil))) .nil)))))) [.sh (fD F), .dic [], .own (lD []), .own (lD []), .un, .un, .un, .un, .un, .un] = .ok (.next [.sh (fD F), .dic (hs'.map hdD), .own (zD R.1), .own (.list (R.2.map lzD)), y4, y5, y6, y7, y8, y9]) := h
  have e5 : exec G_unlike (.frz 2) [.sh (fD F), .dic (hs'.map hdD), .own (zD R.1), .own (.list (R.2.map lzD)), y4, y5, y6, y7, y8, y9] = .ok (.next [.sh (fD F), .dic (hs'.map hdD), .sh (zD R.1), .own (.list (R.2.map lzD)), y4, y5, y6, y7, y8, y9]) := rfl
  have e6 : exec G_unlike (.frz 3) [.sh (fD F), .dic (hs'.map hdD), .sh (zD R.1), .own (.list (R.2.map lzD)), y4, y5, y6, y7, y8, y9] = .ok (.next [.sh (fD F), .dic (hs'.map hdD), .sh (zD R.1), .sh (.list (R.2.map lzD)), y4, y5, y6, y7, y8, y9]) := rfl
  show execs G_unlike (.cons (.dnew 1) (.cons (.asg 2 true (.lst .nil)) (.cons (.asg 3 true (.lst .nil)) (.cons (.for_ (.tup [4, 5]) (.enum (.var 0)) (.cons (.asg 6 false (.var 5)) (.cons (.asg 7 false (.tup .nil)) (.cons (.whl (.and (.cmp .ne (.var 6) (.tup .nil)) (.din (.idx (.var 6) (.neg (.int 1))) 1)) (.cons (.unp [8, 9] (.dgt 1 (.idx (.var 6) (.neg (.int 1))))) (.cons (.asg 6 false (.call ("unlike" : Str) (.cons (.var 6) (.cons (.var 8) .nil)))) (.cons (.asg 7 false (.call ("unlike" : Str) (.cons (.var 7) (.cons (.var 9) .nil)))) .nil)))) (.cons (.ifs (.cmp .ne (.var 6) (.tup .nil)) (.cons (.app 2 (.var 4)) (.cons (.dput 1 (.idx (.var 6) (.neg (.int 1))) (.tup (.cons (.var 6) (.cons (.call ("unlike" : Str) (.cons (.var 7) (.cons (.tup (.cons (.var 4) .nil)) .nil))) .nil)))) (.cons (.asg 7 false (.tup (.cons (.var 4) .nil))) .nil))) .nil) (.cons (.app 3 (.blt .list (.cons (.var 7) .nil))) .nil)))))) (.cons (.frz 2) (.cons (.frz 3) (.cons (.ret (.tup (.cons (.var 2) (.cons (.var 3) .nil)))) .nil))))))) _ = _
  rw [ex_cons e1, ex_cons e2, ex_cons e3, ex_cons e4, ex_cons e5, ex_cons e6]
  simp only [DL.execs, DL.exec, DL.ev, DL.evs, DL.evo, DL.evc, DL.evi, DL.evB_bool, DL.getSh0, DL.getSh_s, DL.getB0, DL.getB0o, DL.getB_s, DL.M.bind_ok, DL.M.bind_ex, DL.M.ofO_some, DL.onNext, if_true, if_false, if_pos, Bool.false_eq_true, DL.put, DL.tyD, List.set_cons_zero, List.set_cons_succ, Bool.not_true, Bool.not_false, DL.forRun, DL.bindT, DL.setAll, DL.items_t, DL.items_l, DL.c_lti, DL.c_lei, DL.c_gti, DL.c_gei, DL.c_eqi, DL.c_nei, DL.wipe, List.map_cons, List.map_nil, DL.fl, reduceCtorEq, false_and, and_false, Nat.reduceEqDiff, DL.noX_ok, DL.items_lD, DL.items_fD, DL.items_tD, DL.mkTup0, DL.mkTup1i, DL.mkTup1t, DL.mkTup2t, DL.mkLst0, DL.mkLst1t, DL.sorted_lD, DL.tuple_lD, DL.len_lD, DL.len_fD, DL.len_tD, mt]
theorem m_own_ok {n : Nat} (h1 : 1 ≤ n) (hn : n ≤ 8) {F : List (List Int)} (g : goodF (n : Int) F) (hl : F.length ≤ 100) : m_own [.int (n : Int), fD F] = .ok (zD (partF 0 F [] [] []).1) := by
  have gi : isFrom 1 8 (.int (n : Int)) = true := by
    show (decide _ && decide _) = true
    rw [Bool.and_eq_true]
    exact ⟨decide_eq_true (by omega), decide_eq_true (by omega)⟩
  have e := m_parted_ok hn g.1 hl
  have i0 : ∀ a b : D, idxD (.tuple [a, b]) (.int 0) = .ok a := fun _ _ => rfl
  refine run_ret [.sh (.int (n : Int)), .sh (fD F)] rfl rfl ?_
  simp only [f_own, DL.execs, DL.exec, DL.ev, DL.evs, DL.evo, DL.evc, DL.evi, DL.evB_bool, DL.getSh0, DL.getSh_s, DL.getB0, DL.getB0o, DL.getB_s, DL.M.bind_ok, DL.M.bind_ex, DL.M.ofO_some, DL.onNext, if_true, if_false, if_pos, Bool.false_eq_true, DL.put, DL.tyD, List.set_cons_zero, List.set_cons_succ, Bool.not_true, Bool.not_false, DL.forRun, DL.bindT, DL.setAll, DL.items_t, DL.items_l, DL.c_lti, DL.c_lei, DL.c_gti, DL.c_gei, DL.c_eqi, DL.c_nei, DL.wipe, List.map_cons, List.map_nil, DL.fl, reduceCtorEq, false_and, and_false, Nat.reduceEqDiff, DL.noX_ok, DL.items_lD, DL.items_fD, DL.items_tD, DL.mkTup0, DL.mkTup1i, DL.mkTup1t, DL.mkTup2t, DL.mkLst0, DL.mkLst1t, DL.sorted_lD, DL.tuple_lD, DL.len_lD, DL.len_fD, DL.len_tD, g_own_need_ground, g_own_need_family, m_need_ground_ok, m_need_family_ok, gi, flawD_good g, g_own_parted_ways, e, i0]
theorem m_rank_ok {n : Nat} (h1 : 1 ≤ n) (hn : n ≤ 8) {F : List (List Int)} (g : goodF (n : Int) F) (hl : F.length ≤ 100) : m_rank [.int (n : Int), fD F] = .ok (.int ((partF 0 F [] [] []).1.length : Nat)) := by
  have e := m_own_ok h1 hn g hl
  have el : ∀ l : List Int, bltD .len [zD l] = .ok (.int (l.length : Nat)) := fun l => by
    show M.ok (PyData.int ((l.map PyData.int).length : Nat)) = _
    rw [List.length_map]
  refine run_ret [.sh (.int (n : Int)), .sh (fD F)] rfl rfl ?_
  simp only [f_rank, DL.execs, DL.exec, DL.ev, DL.evs, DL.evo, DL.evc, DL.evi, DL.evB_bool, DL.getSh0, DL.getSh_s, DL.getB0, DL.getB0o, DL.getB_s, DL.M.bind_ok, DL.M.bind_ex, DL.M.ofO_some, DL.onNext, if_true, if_false, if_pos, Bool.false_eq_true, DL.put, DL.tyD, List.set_cons_zero, List.set_cons_succ, Bool.not_true, Bool.not_false, DL.forRun, DL.bindT, DL.setAll, DL.items_t, DL.items_l, DL.c_lti, DL.c_lei, DL.c_gti, DL.c_gei, DL.c_eqi, DL.c_nei, DL.wipe, List.map_cons, List.map_nil, DL.fl, reduceCtorEq, false_and, and_false, Nat.reduceEqDiff, DL.noX_ok, DL.items_lD, DL.items_fD, DL.items_tD, DL.mkTup0, DL.mkTup1i, DL.mkTup1t, DL.mkTup2t, DL.mkLst0, DL.mkLst1t, DL.sorted_lD, DL.tuple_lD, DL.len_lD, DL.len_fD, DL.len_tD, g_rank_own, e, el]
/-! a town: no sum is without points -/
structure Town (n : Nat) (F : List (List Int)) : Prop where
  good : ∀ a ∈ F, goodS (n : Int) (-1) a = true
  self : ∀ (i : Nat) (a : List Int), F[i]? = some a → shN a a % 2 = 1
  two : ∀ (i j : Nat) (a b : List Int), F[i]? = some a → F[j]? = some b → i ≠ j → shN a b % 2 = 0
/-- what a set shares with each set of the town tells its places -/
def Rep (F : List (List Int)) (r ps : List Int) : Prop := ∀ (i : Nat) (a : List Int), F[i]? = some a → shN r a % 2 = if (i : Int) ∈ ps then 1 else 0
theorem rep_unl {n K : Nat} {F : List (List Int)} {r s ps qs : List Int} (gr : goodS (n : Int) (-1) r = true) (gs : goodS (n : Int) (-1) s = true) (h1 : Rep F r ps) (h2 : Rep F s qs) : Rep F (unl r s) (unl ps qs) := fun i a e => by
  have e1 := h1 i a e
  have e2 := h2 i a e
  rw [shN_add (gsNodup _ _ gr) (gsNodup _ _ gs)]
  by_cases a1 : (i : Int) ∈ ps <;> by_cases a2 : (i : Int) ∈ qs
  · rw [if_pos a1] at e1; rw [if_pos a2] at e2; rw [if_neg (by rw [mem_unl]; simp [a1, a2])]; omega
  · rw [if_pos a1] at e1; rw [if_neg a2] at e2; rw [if_pos (by rw [mem_unl]; simp [a1, a2])]; omega
  · rw [if_neg a1] at e1; rw [if_pos a2] at e2; rw [if_pos (by rw [mem_unl]; simp [a1, a2])]; omega
  · rw [if_neg a1] at e1; rw [if_neg a2] at e2; rw [if_neg (by rw [mem_unl]; simp [a1, a2])]; omega
theorem rep_congr {F : List (List Int)} {r ps qs : List Int} (h : Rep F r ps) (e : ∀ x, x ∈ ps ↔ x ∈ qs) : Rep F r qs := fun i a h1 => by
  rw [h i a h1]
  by_cases z : (i : Int) ∈ ps
  · rw [if_pos z, if_pos ((e _).mp z)]
  · rw [if_neg z, if_neg fun y => z ((e _).mpr y)]
structure HK (n : Nat) (F : List (List Int)) (k : Nat) (hs : List Hd) : Prop where
  ok : HdOk n k hs
  rep : ∀ p q, hGet hs p = some q → Rep F q.1 q.2
  nd : (hs.map (·.1)).Nodup
  rg : ∀ p ∈ hs.map (·.1), 0 ≤ p ∧ p < (n : Int)
  len : hs.length = k
theorem red_rep {n K : Nat} {F : List (List Int)} {hs : List Hd} (ok : HdOk n K hs) (rp : ∀ p q, hGet hs p = some q → Rep F q.1 q.2) (k : Int) : ∀ (f : Nat) (r ps : List Int), goodS (n : Int) (-1) r = true → Rep F r (unl ps [k]) → Rep F (redF hs f r ps).1 (unl (redF hs f r ps).2 [k])
  | 0, r, ps, _, h => h
  | f + 1, r, ps, g, h => by
    rw [redF]
    split
    · exact h
    · cases e : hGet hs (lastI r) with
      | none => exact h
      | some q =>
        obtain ⟨o1, o2, o3, o4⟩ := ok.ok _ _ e
        refine red_rep ok rp k f _ _ (good_unl g o1) (rep_congr (rep_unl (K := K) g o1 h (rp _ _ e)) fun x => ?_)
        simp only [mem_unl]
        by_cases a1 : x ∈ ps <;> by_cases a2 : x ∈ q.2 <;> by_cases a3 : x ∈ [k] <;> simp [a1, a2, a3]
theorem hGet_none {hs : List Hd} {p : Int} (h : hGet hs p = none) : p ∉ hs.map (·.1) := fun hm => by
  obtain ⟨x, hx, e⟩ := List.mem_map.mp hm
  unfold hGet at h
  rw [Option.map_eq_none_iff, List.find?_eq_none] at h
  exact h x hx (decide_eq_true e)
theorem part_town {n : Nat} {F : List (List Int)} (T : Town n F) (hn : n ≤ 8) : ∀ (G pre : List (List Int)) (hs : List Hd) (own : List Int) (told : List (List Int)), F = pre ++ G → HK n F pre.length hs →
    partF pre.length G hs own told = (own ++ (List.range' pre.length G.length).map (fun (i : Nat) => (i : Int)), told ++ (List.range' pre.length G.length).map fun (i : Nat) => [(i : Int)]) ∧ pre.length + G.length ≤ n
  | [], pre, hs, own, told, e, hk => by
    refine ⟨by simp [partF], ?_⟩
    have : (hs.map (·.1)).length ≤ ((List.range n).map fun (i : Nat) => (i : Int)).length := hk.nd.length_le_of_subset fun p hp => by
      obtain ⟨a, b⟩ := hk.rg p hp
      exact List.mem_map.mpr ⟨p.toNat, List.mem_range.mpr (by omega), by omega⟩
    rw [List.length_map, List.length_map, List.length_range, hk.len] at this
    rw [List.length_nil]
    omega
  | a :: G, pre, hs, own, told, e, hk => by
    have ha : F[pre.length]? = some a := by rw [e]; simp
    have ga : goodS (n : Int) (-1) a = true := T.good a (List.mem_of_getElem? ha)
    have r0 : Rep F a (unl [] [(pre.length : Int)]) := fun i b hb => by
      by_cases z : i = pre.length
      · subst z
        rw [ha] at hb
        cases hb
        rw [T.self _ _ ha, if_pos (by rw [mem_unl]; simp)]
      · rw [T.two pre.length i a b ha hb (fun y => z y.symm), if_neg]
        rw [mem_unl]
        simp
        omega
    have rr := red_rep hk.ok hk.rep (pre.length : Int) 9 a [] ga r0
    have rg := red_good hk.ok 9 a [] ga (by rfl)
    have re := red_end hk.ok 9 a [] ga (by have := far_le ga; omega)
    rw [partF]
    generalize redF hs 9 a [] = q at *
    have hz : q.1 ≠ [] := fun z => by
      have h := rr pre.length a ha
      rw [z] at h
      have hm : (pre.length : Int) ∈ unl q.2 [(pre.length : Int)] := by
        rw [mem_unl]
        refine .inr ⟨by simp, fun y => ?_⟩
        have := gsMem _ _ rg.2 _ y
        omega
      rw [if_pos hm] at h
      have : shN [] a = 0 := rfl
      omega
    rw [if_neg hz]
    have hg := re.resolve_left hz
    have gk := one_good pre.length
    have gm := goodS_mono (p := (pre.length : Int)) (n := ((pre.length + 1 : Nat) : Int)) (by omega) _ _ rg.2
    have el : (pre ++ [a]).length = pre.length + 1 := by simp
    have lp := gsMem _ _ rg.1 _ (lastI_max rg.1 hz).1
    have hk' : HK n F (pre ++ [a]).length (hs ++ [(lastI q.1, (q.1, unl q.2 [(pre.length : Int)]))]) := by
      rw [el]
      refine ⟨⟨fun p s h => ?_⟩, fun p s h => ?_, ?_, fun p hp => ?_, by rw [List.length_append, hk.len]; rfl⟩
      · rcases hGet_snoc h with h | ⟨h1, h2⟩
        · exact (hd_mono hk.ok).ok p s h
        · subst h1 h2; exact ⟨rg.1, hz, rfl, good_unl gm gk⟩
      · rcases hGet_snoc h with h | ⟨h1, h2⟩
        · exact hk.rep p s h
        · subst h1 h2; exact rr
      · rw [List.map_append]
        refine List.nodup_append.mpr ⟨hk.nd, by simp, fun x hx y hy z => ?_⟩
        rw [List.map_cons, List.map_nil, List.mem_singleton] at hy
        subst z
        rw [hy] at hx
        exact hGet_none hg hx
      · rw [List.map_append] at hp
        rcases List.mem_append.mp hp with h | h
        · exact hk.rg p h
        · rw [List.map_cons, List.map_nil, List.mem_singleton] at h
          rw [h]
          omega
    obtain ⟨i1, i2⟩ := part_town T hn G (pre ++ [a]) _ (own ++ [(pre.length : Int)]) (told ++ [[(pre.length : Int)]]) (by rw [e]; simp) hk'
    rw [el] at i1 i2
    refine ⟨?_, by rw [List.length_cons]; omega⟩
    rw [i1, List.length_cons, List.range'_succ, List.map_cons, List.map_cons]
    simp
theorem town_parts {n : Nat} {F : List (List Int)} (T : Town n F) (hn : n ≤ 8) : partF 0 F [] [] [] = ((List.range F.length).map (fun (i : Nat) => (i : Int)), (List.range F.length).map fun (i : Nat) => [(i : Int)]) ∧ F.length ≤ n := by
  obtain ⟨h1, h2⟩ := part_town T hn F [] [] [] [] rfl ⟨⟨fun p q h => by cases h⟩, fun p q h => (by cases h), List.nodup_nil, fun p hp => (by cases hp), rfl⟩
  have h1 : partF 0 F [] [] [] = _ := h1
  rw [h1]
  refine ⟨?_, by simpa using h2⟩
  rw [List.nil_append, List.nil_append, List.length_nil, ← List.range_eq_range']

end LW

namespace LW
open DL
open PySem (Str PyData)
/-! none_sum: rows of places with their sums, one longer each turn -/
abbrev Row := List Int × List Int
def rowD (x : Row) : D := .tuple [zD x.1, tD x.2]
def topI : List Int → Int
  | [] => -1
  | n :: r => r.foldl max n
theorem topI_snoc {ps : List Int} {k : Int} (h : topI ps < k) : topI (ps ++ [k]) = k := by
  cases ps with
  | nil => rfl
  | cons n r =>
    show (r ++ [k]).foldl max n = k
    rw [List.foldl_append]
    have h : r.foldl max n < k := h
    show max _ k = k
    omega
theorem maxd_zD (ps : List Int) : bltD .maxd [zD ps, .int (-1)] = .ok (.int (topI ps)) := by
  show (M.ofO (intsD (ps.map .int))).bind (fun ns => match ns with
      | [] => M.ok (PyData.int (-1))
      | n :: r => .ok (.int (r.foldl max n))) = _
  rw [ints_map, M.ofO_some, M.bind_ok]
  cases ps <;> rfl
theorem mem_top : ∀ {ps : List Int} {x : Int}, x ∈ ps → x ≤ topI ps
  | [], x, h => by cases h
  | n :: r, x, h => by
    have gen : ∀ (l : List Int) (a : Int), a ≤ l.foldl max a ∧ ∀ y ∈ l, y ≤ l.foldl max a := by
      intro l
      induction l with
      | nil => intro a; exact ⟨Int.le_refl _, fun y hy => by cases hy⟩
      | cons b l ih =>
        intro a
        obtain ⟨i1, i2⟩ := ih (max a b)
        refine ⟨Int.le_trans (by omega) i1, fun y hy => ?_⟩
        rcases List.mem_cons.mp hy with e | hy
        · rw [e]; exact Int.le_trans (by omega) i1
        · exact i2 y hy
    rcases List.mem_cons.mp h with e | h
    · rw [e]; exact (gen r n).1
    · exact (gen r n).2 x h
def kidsF (F : List (List Int)) (x : Row) : List Row := (List.range' (topI x.1 + 1).toNat (F.length - (topI x.1 + 1).toNat)).map fun (i : Nat) => (x.1 ++ [(i : Int)], unl x.2 ((F[i]?).getD []))
def nextF (F : List (List Int)) (rows : List Row) : List Row := rows.flatMap (kidsF F)
/-- a row's weight -/
def wtR (m : Nat) (x : Row) : Nat := 2 ^ (m - (topI x.1 + 1).toNat)
theorem wt_range (m : Nat) (r : Nat → Row) : ∀ (c a : Nat), a + c = m → (∀ i, a ≤ i → topI (r i).1 = (i : Int)) → (((List.range' a c).map r).map (wtR m)).sum + 1 = 2 ^ c
  | 0, a, _, _ => rfl
  | c + 1, a, h, hr => by
    have ih := wt_range m r c (a + 1) (by omega) fun i hi => hr i (by omega)
    rw [List.range'_succ, List.map_cons, List.map_cons, List.sum_cons]
    have : wtR m (r a) = 2 ^ c := by
      unfold wtR
      rw [hr a (Nat.le_refl _)]
      congr 1
      omega
    rw [this, Nat.pow_succ]
    omega
structure RowOk (n : Nat) (F : List (List Int)) (x : Row) : Prop where
  lo : -1 ≤ topI x.1
  hi : topI x.1 < F.length
  good : goodS (n : Int) (-1) x.2 = true
  len : (x.1.length : Int) ≤ topI x.1 + 1
theorem kids_wt {n : Nat} {F : List (List Int)} {x : Row} (o : RowOk n F x) : ((kidsF F x).map (wtR F.length)).sum + 1 = wtR F.length x := by
  obtain ⟨h1, h2, _, _⟩ := o
  unfold kidsF wtR
  exact wt_range F.length _ _ _ (by omega) fun i hi => topI_snoc (by omega)
theorem kids_ok {n : Nat} {F : List (List Int)} (hF : ∀ a ∈ F, goodS (n : Int) (-1) a = true) {x : Row} (o : RowOk n F x) : ∀ y ∈ kidsF F x, RowOk n F y := fun y hy => by
  unfold kidsF at hy
  obtain ⟨i, hi, rfl⟩ := List.mem_map.mp hy
  rw [List.mem_range'_1] at hi
  obtain ⟨h1, h2, h3, h4⟩ := o
  have ht : topI (x.1 ++ [(i : Int)]) = (i : Int) := topI_snoc (by omega)
  have hil : i < F.length := by omega
  refine ⟨?_, ?_, ?_, ?_⟩
  · show -1 ≤ topI (x.1 ++ [(i : Int)]); rw [ht]; omega
  · show topI (x.1 ++ [(i : Int)]) < _; rw [ht]; omega
  · show goodS _ _ (unl x.2 ((F[i]?).getD [])) = true
    rw [List.getElem?_eq_getElem hil]
    exact good_unl h3 (hF _ (List.getElem_mem hil))
  · show (((x.1 ++ [(i : Int)]).length : Nat) : Int) ≤ topI (x.1 ++ [(i : Int)]) + 1
    rw [ht, List.length_append, List.length_singleton]
    omega
def wtS (m : Nat) (rows : List Row) : Nat := (rows.map (wtR m)).sum
theorem next_wt {n : Nat} {F : List (List Int)} : ∀ (rows : List Row), (∀ x ∈ rows, RowOk n F x) → wtS F.length (nextF F rows) + rows.length = wtS F.length rows
  | [], _ => rfl
  | x :: rows, h => by
    have ih := next_wt rows fun y hy => h y (List.mem_cons_of_mem _ hy)
    have hk := kids_wt (h x List.mem_cons_self)
    unfold wtS nextF at ih ⊢
    rw [List.flatMap_cons, List.map_append, List.sum_append, List.map_cons, List.sum_cons, List.length_cons]
    omega
theorem len_wt (m : Nat) : ∀ rows : List Row, rows.length ≤ wtS m rows
  | [] => Nat.zero_le _
  | x :: rows => by
    have ih := len_wt m rows
    unfold wtS at ih ⊢
    rw [List.map_cons, List.sum_cons, List.length_cons]
    have : 1 ≤ wtR m x := Nat.one_le_two_pow
    omega
def noneF (F : List (List Int)) : Nat → List Row → Option (List Int)
  | 0, _ => none
  | f + 1, rows => if rows = [] then none else match (nextF F rows).find? fun x => decide (x.2 = []) with
    | some x => some x.1
    | none => noneF F f (nextF F rows)
theorem idx_fD {F : List (List Int)} {i : Nat} (h : i < F.length) : idxD (fD F) (.int (i : Int)) = .ok (tD ((F[i]?).getD [])) := by
  show M.ofO ((ixN (F.map tD).length (i : Int)).bind fun j => (F.map tD)[j]?) = _
  have e : ixN (F.map tD).length (i : Int) = some i := by
    unfold ixN
    rw [if_pos (by omega), if_pos (by rw [List.length_map]; omega)]
    simp
  rw [e]
  simp [h]
theorem add_zD {a b : List Int} (h : a.length + b.length ≤ 10000) : binD .add (zD a) (zD b) = .ok (zD (a ++ b)) := by
  show mkLst _ = _
  rw [mkLst_ok (line256 (by rw [List.length_append, List.length_map, List.length_map]; omega)), ← List.map_append]
  rfl
theorem kids_for {n : Nat} (hn : n ≤ 8) {F : List (List Int)} (hF : ∀ a ∈ F, goodS (n : Int) (-1) a = true) (s0 s2 : Sl) {ps t : List Int} (gt : goodS (n : Int) (-1) t = true) (lp : ps.length ≤ 1000) : ∀ (c a : Nat) (A : List Row), a + c = F.length → A.length + c ≤ 10000 → ∀ x, ∃ y,
    forRun (.nm 6) (execs G_rank (.cons (.app 3 (.tup (.cons (.bin .add (.var 4) (.lst (.cons (.var 6) .nil))) (.cons (.call ("unlike" : Str) (.cons (.var 5) (.cons (.idx (.var 1) (.var 6)) .nil))) .nil)))) .nil)) (rng (a : Int) c) [s0, .sh (fD F), s2, .own (.list (A.map rowD)), .sh (zD ps), .sh (tD t), x] = .ok (.next [s0, .sh (fD F), s2, .own (.list ((A ++ (List.range' a c).map fun (i : Nat) => (ps ++ [(i : Int)], unl t ((F[i]?).getD []))).map rowD)), .sh (zD ps), .sh (tD t), y])
  | 0, a, A, _, _, x => ⟨x, by simp only [List.range'_zero, List.map_nil, List.append_nil]; rfl⟩
  | c + 1, a, A, h, hl, x => by
    obtain ⟨y, ih⟩ := kids_for hn hF s0 s2 gt lp c (a + 1) (A ++ [(ps ++ [(a : Int)], unl t ((F[a]?).getD []))]) (by omega) (by rw [List.length_append, List.length_singleton]; omega) (.sh (.int (a : Int)))
    refine ⟨y, ?_⟩
    have ha : a < F.length := by omega
    have ga : goodS (n : Int) (-1) ((F[a]?).getD []) = true := by
      rw [List.getElem?_eq_getElem ha]
      exact hF _ (List.getElem_mem ha)
    have ek : (a : Int) + 1 = ((a + 1 : Nat) : Int) := by omega
    rw [rng, ek, List.range'_succ, List.map_cons]
    have eb : A ++ (ps ++ [(a : Int)], unl t ((F[a]?).getD [])) :: (List.range' (a + 1) c).map (fun (i : Nat) => (ps ++ [(i : Int)], unl t ((F[i]?).getD []))) = (A ++ [(ps ++ [(a : Int)], unl t ((F[a]?).getD []))]) ++ (List.range' (a + 1) c).map fun (i : Nat) => (ps ++ [(i : Int)], unl t ((F[i]?).getD [])) := by simp
    rw [eb]
    have m1 : mkLst [.int (a : Int)] = .ok (zD [(a : Int)]) := mkLst_ok (by show 1 ≤ line; decide)
    have e1 := add_zD (a := ps) (b := [(a : Int)]) (by rw [List.length_singleton]; omega)
    have e2 := m_unlike_ok (a := t) (b := (F[a]?).getD []) (Nat.le_trans (good_len hn gt) (by omega)) (Nat.le_trans (good_len hn ga) (by omega))
    have e3 : mkTup [zD (ps ++ [(a : Int)]), tD (unl t ((F[a]?).getD []))] = .ok (rowD (ps ++ [(a : Int)], unl t ((F[a]?).getD []))) := mkTup_ok (by show 2 ≤ line; decide)
    have la : (A.map rowD).length < line := by rw [List.length_map]; exact Nat.lt_of_lt_of_le (Nat.lt_succ_self _) (line256 (by omega))
    have ea : A.map rowD ++ [rowD (ps ++ [(a : Int)], unl t ((F[a]?).getD []))] = (A ++ [(ps ++ [(a : Int)], unl t ((F[a]?).getD []))]).map rowD := by rw [List.map_append]; rfl
    simp only [DL.execs, DL.exec, DL.ev, DL.evs, DL.evo, DL.evc, DL.evi, DL.evB_bool, DL.getSh0, DL.getSh_s, DL.getB0, DL.getB0o, DL.getB_s, DL.M.bind_ok, DL.M.bind_ex, DL.M.ofO_some, DL.onNext, if_true, if_false, if_pos, Bool.false_eq_true, DL.put, DL.tyD, List.set_cons_zero, List.set_cons_succ, Bool.not_true, Bool.not_false, DL.forRun, DL.bindT, DL.setAll, DL.items_t, DL.items_l, DL.c_lti, DL.c_lei, DL.c_gti, DL.c_gei, DL.c_eqi, DL.c_nei, DL.wipe, List.map_cons, List.map_nil, DL.fl, reduceCtorEq, false_and, and_false, Nat.reduceEqDiff, DL.noX_ok, DL.items_lD, DL.items_fD, DL.items_tD, DL.mkTup0, DL.mkTup1i, DL.mkTup1t, DL.mkTup2t, DL.mkLst0, DL.mkLst1t, DL.sorted_lD, DL.tuple_lD, DL.len_lD, DL.len_fD, DL.len_tD] at ih
    simp only [DL.execs, DL.exec, DL.ev, DL.evs, DL.evo, DL.evc, DL.evi, DL.evB_bool, DL.getSh0, DL.getSh_s, DL.getB0, DL.getB0o, DL.getB_s, DL.M.bind_ok, DL.M.bind_ex, DL.M.ofO_some, DL.onNext, if_true, if_false, if_pos, Bool.false_eq_true, DL.put, DL.tyD, List.set_cons_zero, List.set_cons_succ, Bool.not_true, Bool.not_false, DL.forRun, DL.bindT, DL.setAll, DL.items_t, DL.items_l, DL.c_lti, DL.c_lei, DL.c_gti, DL.c_gei, DL.c_eqi, DL.c_nei, DL.wipe, List.map_cons, List.map_nil, DL.fl, reduceCtorEq, false_and, and_false, Nat.reduceEqDiff, DL.noX_ok, DL.items_lD, DL.items_fD, DL.items_tD, DL.mkTup0, DL.mkTup1i, DL.mkTup1t, DL.mkTup2t, DL.mkLst0, DL.mkLst1t, DL.sorted_lD, DL.tuple_lD, DL.len_lD, DL.len_fD, DL.len_tD, List.getElem?_cons_succ, List.getElem?_cons_zero, m1, e1, idx_fD ha, g_none_sum_unlike, e2, e3, la, ea]
    exact ih
theorem next_for {n : Nat} (hn : n ≤ 8) {F : List (List Int)} (hF : ∀ a ∈ F, goodS (n : Int) (-1) a = true) (hl : F.length ≤ 900) (s0 s2 : Sl) : ∀ (rows A : List Row), (∀ x ∈ rows, RowOk n F x) → A.length + wtS F.length rows ≤ 10000 → ∀ x4 x5 x6, ∃ y4 y5 y6,
    forRun (.tup [4, 5]) (execs G_rank (.cons (.for_ (.nm 6) (.rng2 (.bin .add (.blt .maxd (.cons (.var 4) (.cons (.neg (.int 1)) .nil))) (.int 1)) (.blt .len (.cons (.var 1) .nil))) (.cons (.app 3 (.tup (.cons (.bin .add (.var 4) (.lst (.cons (.var 6) .nil))) (.cons (.call ("unlike" : Str) (.cons (.var 5) (.cons (.idx (.var 1) (.var 6)) .nil))) .nil)))) .nil)) .nil)) (rows.map rowD) [s0, .sh (fD F), s2, .own (.list (A.map rowD)), x4, x5, x6] = .ok (.next [s0, .sh (fD F), s2, .own (.list ((A ++ nextF F rows).map rowD)), y4, y5, y6])
  | [], A, _, _, x4, x5, x6 => ⟨x4, x5, x6, by unfold nextF; rw [List.flatMap_nil, List.append_nil]; rfl⟩
  | x :: rows, A, ho, hw, x4, x5, x6 => by
    have o := ho x List.mem_cons_self
    have kw := kids_wt o
    have kl := len_wt F.length (kidsF F x)
    have e0 : wtS F.length (x :: rows) = wtR F.length x + wtS F.length rows := by unfold wtS; rw [List.map_cons, List.sum_cons]
    have e00 : wtS F.length (kidsF F x) = ((kidsF F x).map (wtR F.length)).sum := rfl
    have kl2 : (kidsF F x).length = F.length - (topI x.1 + 1).toNat := by unfold kidsF; rw [List.length_map, List.length_range']
    obtain ⟨h1, h2, h3, h4⟩ := o
    obtain ⟨y6, hk⟩ := kids_for hn hF s0 s2 (ps := x.1) (t := x.2) h3 (by omega) (F.length - (topI x.1 + 1).toNat) (topI x.1 + 1).toNat A (by omega) (by omega) x6
    obtain ⟨z4, z5, z6, ih⟩ := next_for hn hF hl s0 s2 rows (A ++ kidsF F x) (fun y hy => ho y (List.mem_cons_of_mem _ hy)) (by rw [List.length_append]; omega) (.sh (zD x.1)) (.sh (tD x.2)) y6
    refine ⟨z4, z5, z6, ?_⟩
    have en : A ++ nextF F (x :: rows) = (A ++ kidsF F x) ++ nextF F rows := by unfold nextF; rw [List.flatMap_cons, List.append_assoc]
    rw [en]
    have el : ((topI x.1 + 1).toNat : Int) = topI x.1 + 1 := by omega
    rw [el] at hk
    have r1 : inR (topI x.1 + 1) = true := inR_ok (by omega)
    have r2 : inR (F.length : Int) = true := inR_ok (by omega)
    have r3 : ((F.length : Int) - (topI x.1 + 1)).toNat = F.length - (topI x.1 + 1).toNat := by omega
    have hk : forRun (.nm 6) (execs G_rank (.cons (.app 3 (.tup (.cons (.bin .add (.var 4) (.lst (.cons (.var 6) .nil))) (.cons (.call ("unlike" : Str) (.cons (.var 5) (.cons (.idx (.var 1) (.var 6)) .nil))) .nil)))) .nil)) (rng (topI x.1 + 1) (F.length - (topI x.1 + 1).toNat)) [s0, .sh (fD F), s2, .own (.list (A.map rowD)), .sh (zD x.1), .sh (tD x.2), x6] = .ok (.next [s0, .sh (fD F), s2, .own (.list ((A ++ kidsF F x).map rowD)), .sh (zD x.1), .sh (tD x.2), y6]) := hk
    rw [List.map_cons]
    have er : rowD x = .tuple [zD x.1, tD x.2] := rfl
    rw [er]
    have n1 : (-1 : Int) = -1 := rfl
    simp only [DL.execs, DL.exec, DL.ev, DL.evs, DL.evo, DL.evc, DL.evi, DL.evB_bool, DL.getSh0, DL.getSh_s, DL.getB0, DL.getB0o, DL.getB_s, DL.M.bind_ok, DL.M.bind_ex, DL.M.ofO_some, DL.onNext, if_true, if_false, if_pos, Bool.false_eq_true, DL.put, DL.tyD, List.set_cons_zero, List.set_cons_succ, Bool.not_true, Bool.not_false, DL.bindT, DL.setAll, DL.items_t, DL.items_l, DL.c_lti, DL.c_lei, DL.c_gti, DL.c_gei, DL.c_eqi, DL.c_nei, DL.wipe, List.map_cons, List.map_nil, DL.fl, reduceCtorEq, false_and, and_false, Nat.reduceEqDiff, DL.noX_ok, DL.items_lD, DL.items_fD, DL.items_tD, DL.mkTup0, DL.mkTup1i, DL.mkTup1t, DL.mkTup2t, DL.mkLst0, DL.mkLst1t, DL.sorted_lD, DL.tuple_lD, DL.len_lD, DL.len_fD, DL.len_tD] at hk ih
    simp only [DL.execs, DL.exec, DL.ev, DL.evs, DL.evo, DL.evc, DL.evi, DL.evB_bool, DL.getSh0, DL.getSh_s, DL.getB0, DL.getB0o, DL.getB_s, DL.M.bind_ok, DL.M.bind_ex, DL.M.ofO_some, DL.onNext, if_true, if_false, if_pos, Bool.false_eq_true, DL.put, DL.tyD, List.set_cons_zero, List.set_cons_succ, Bool.not_true, Bool.not_false, DL.bindT, DL.setAll, DL.items_t, DL.items_l, DL.c_lti, DL.c_lei, DL.c_gti, DL.c_gei, DL.c_eqi, DL.c_nei, DL.wipe, List.map_cons, List.map_nil, DL.fl, reduceCtorEq, false_and, and_false, Nat.reduceEqDiff, DL.noX_ok, DL.items_lD, DL.items_fD, DL.items_tD, DL.mkTup0, DL.mkTup1i, DL.mkTup1t, DL.mkTup2t, DL.mkLst0, DL.mkLst1t, DL.sorted_lD, DL.tuple_lD, DL.len_lD, DL.len_fD, DL.len_tD, forRun, maxd_zD, add_i, r1, r2, and_self, r3, hk]
    exact ih
theorem find_for (s0 s1 s2 s3 x6 : Sl) : ∀ (rows : List Row), ∀ x4 x5, ∃ y4 y5, forRun (.tup [4, 5]) (execs G_rank (.cons (.ifs (.cmp .eq (.var 5) (.tup .nil)) (.cons (.ret (.var 4)) .nil) .nil) .nil)) (rows.map rowD) [s0, s1, s2, s3, x4, x5, x6] =
    .ok (match rows.find? (fun x => decide (x.2 = [])) with | some x => .ret (zD x.1) | none => .next [s0, s1, s2, s3, y4, y5, x6])
  | [], x4, x5 => ⟨x4, x5, rfl⟩
  | x :: rows, x4, x5 => by
    obtain ⟨y4, y5, ih⟩ := find_for s0 s1 s2 s3 x6 rows (.sh (zD x.1)) (.sh (tD x.2))
    refine ⟨y4, y5, ?_⟩
    have er : rowD x = .tuple [zD x.1, tD x.2] := rfl
    rw [List.map_cons, er]
    simp only [DL.execs, DL.exec, DL.ev, DL.evs, DL.evo, DL.evc, DL.evi, DL.evB_bool, DL.getSh0, DL.getSh_s, DL.getB0, DL.getB0o, DL.getB_s, DL.M.bind_ok, DL.M.bind_ex, DL.M.ofO_some, DL.onNext, if_true, if_false, if_pos, Bool.false_eq_true, DL.put, DL.tyD, List.set_cons_zero, List.set_cons_succ, Bool.not_true, Bool.not_false, DL.forRun, DL.bindT, DL.setAll, DL.items_t, DL.items_l, DL.c_lti, DL.c_lei, DL.c_gti, DL.c_gei, DL.c_eqi, DL.c_nei, DL.wipe, List.map_cons, List.map_nil, DL.fl, reduceCtorEq, false_and, and_false, Nat.reduceEqDiff, DL.noX_ok, DL.items_lD, DL.items_fD, DL.items_tD, DL.mkTup0, DL.mkTup1i, DL.mkTup1t, DL.mkTup2t, DL.mkLst0, DL.mkLst1t, DL.sorted_lD, DL.tuple_lD, DL.len_lD, DL.len_fD, DL.len_tD] at ih
    simp only [DL.execs, DL.exec, DL.ev, DL.evs, DL.evo, DL.evc, DL.evi, DL.evB_bool, DL.getSh0, DL.getSh_s, DL.getB0, DL.getB0o, DL.getB_s, DL.M.bind_ok, DL.M.bind_ex, DL.M.ofO_some, DL.onNext, if_true, if_false, if_pos, Bool.false_eq_true, DL.put, DL.tyD, List.set_cons_zero, List.set_cons_succ, Bool.not_true, Bool.not_false, DL.forRun, DL.bindT, DL.setAll, DL.items_t, DL.items_l, DL.c_lti, DL.c_lei, DL.c_gti, DL.c_gei, DL.c_eqi, DL.c_nei, DL.wipe, List.map_cons, List.map_nil, DL.fl, reduceCtorEq, false_and, and_false, Nat.reduceEqDiff, DL.noX_ok, DL.items_lD, DL.items_fD, DL.items_tD, DL.mkTup0, DL.mkTup1i, DL.mkTup1t, DL.mkTup2t, DL.mkLst0, DL.mkLst1t, DL.sorted_lD, DL.tuple_lD, DL.len_lD, DL.len_fD, DL.len_tD, c_eqt, List.find?_cons]
    cases h : decide (x.2 = []) with
    | true => simp only [DL.execs, DL.exec, DL.ev, DL.evs, DL.evo, DL.evc, DL.evi, DL.evB_bool, DL.getSh0, DL.getSh_s, DL.getB0, DL.getB0o, DL.getB_s, DL.M.bind_ok, DL.M.bind_ex, DL.M.ofO_some, DL.onNext, if_true, if_false, if_pos, Bool.false_eq_true, DL.put, DL.tyD, List.set_cons_zero, List.set_cons_succ, Bool.not_true, Bool.not_false, DL.forRun, DL.bindT, DL.setAll, DL.items_t, DL.items_l, DL.c_lti, DL.c_lei, DL.c_gti, DL.c_gei, DL.c_eqi, DL.c_nei, DL.wipe, List.map_cons, List.map_nil, DL.fl, reduceCtorEq, false_and, and_false, Nat.reduceEqDiff, DL.noX_ok, DL.items_lD, DL.items_fD, DL.items_tD, DL.mkTup0, DL.mkTup1i, DL.mkTup1t, DL.mkTup2t, DL.mkLst0, DL.mkLst1t, DL.sorted_lD, DL.tuple_lD, DL.len_lD, DL.len_fD, DL.len_tD]
    | false =>
      simp only [DL.execs, DL.exec, DL.ev, DL.evs, DL.evo, DL.evc, DL.evi, DL.evB_bool, DL.getSh0, DL.getSh_s, DL.getB0, DL.getB0o, DL.getB_s, DL.M.bind_ok, DL.M.bind_ex, DL.M.ofO_some, DL.onNext, if_true, if_false, if_pos, Bool.false_eq_true, DL.put, DL.tyD, List.set_cons_zero, List.set_cons_succ, Bool.not_true, Bool.not_false, DL.forRun, DL.bindT, DL.setAll, DL.items_t, DL.items_l, DL.c_lti, DL.c_lei, DL.c_gti, DL.c_gei, DL.c_eqi, DL.c_nei, DL.wipe, List.map_cons, List.map_nil, DL.fl, reduceCtorEq, false_and, and_false, Nat.reduceEqDiff, DL.noX_ok, DL.items_lD, DL.items_fD, DL.items_tD, DL.mkTup0, DL.mkTup1i, DL.mkTup1t, DL.mkTup2t, DL.mkLst0, DL.mkLst1t, DL.sorted_lD, DL.tuple_lD, DL.len_lD, DL.len_fD, DL.len_tD]
      exact ih
theorem c_neRows (rows : List Row) : cmpD .ne (.list (rows.map rowD)) (lD []) = .ok (.bool (!decide (rows = []))) := by
  have hd : okDep (.list (rows.map rowD)) (lD []) = true := decide_eq_true (Nat.le_trans (Nat.min_le_right _ _) (Nat.le_trans (depth_lD []) (by omega)))
  show (if okDep (.list (rows.map rowD)) (lD []) = true then M.ok (PyData.bool (!PyData.eqv (.list (rows.map rowD)) (lD []))) else .bad) = _
  rw [if_pos hd]
  cases rows with
  | nil => rfl
  | cons x rows =>
    congr 2
theorem none_whl {n : Nat} (hn : n ≤ 8) {F : List (List Int)} (hF : ∀ a ∈ F, goodS (n : Int) (-1) a = true) (hl : F.length ≤ 900) (s0 : Sl) : ∀ (f N : Nat) (rows : List Row), (∀ x ∈ rows, RowOk n F x) → wtS F.length rows < f → wtS F.length rows ≤ 10000 → f ≤ N → ∀ x3 x4 x5 x6, ∃ r,
    whlRun (fun q => evB (ev G_rank (.cmp .ne (.var 2) (.lst .nil)) q)) (execs G_rank (.cons (.asg 3 true (.lst .nil)) (.cons (.for_ (.tup [4, 5]) (.seq (.var 2)) (.cons (.for_ (.nm 6) (.rng2 (.bin .add (.blt .maxd (.cons (.var 4) (.cons (.neg (.int 1)) .nil))) (.int 1)) (.blt .len (.cons (.var 1) .nil))) (.cons (.app 3 (.tup (.cons (.bin .add (.var 4) (.lst (.cons (.var 6) .nil))) (.cons (.call ("unlike" : Str) (.cons (.var 5) (.cons (.idx (.var 1) (.var 6)) .nil))) .nil)))) .nil)) .nil)) (.cons (.frz 3) (.cons (.for_ (.tup [4, 5]) (.seq (.var 3)) (.cons (.ifs (.cmp .eq (.var 5) (.tup .nil)) (.cons (.ret (.var 4)) .nil) .nil) .nil)) (.cons (.frz 3) (.cons (.asg 2 false (.var 3)) .nil))))))) N [s0, .sh (fD F), .sh (.list (rows.map rowD)), x3, x4, x5, x6] = .ok (match noneF F f rows with | some ps => .ret (zD ps) | none => .next r)
  | 0, N, rows, _, h, _, _, _, _, _, _ => by omega
  | f + 1, 0, rows, _, _, _, h, _, _, _, _ => by omega
  | f + 1, N + 1, rows, ho, hw, hw2, hN, x3, x4, x5, x6 => by
    have hc : evB (ev G_rank (.cmp .ne (.var 2) (.lst .nil)) [s0, .sh (fD F), .sh (.list (rows.map rowD)), x3, x4, x5, x6]) = .ok (!decide (rows = [])) := by
      simp only [DL.execs, DL.exec, DL.ev, DL.evs, DL.evo, DL.evc, DL.evi, DL.evB_bool, DL.getSh0, DL.getSh_s, DL.getB0, DL.getB0o, DL.getB_s, DL.M.bind_ok, DL.M.bind_ex, DL.M.ofO_some, DL.onNext, if_true, if_false, if_pos, Bool.false_eq_true, DL.put, DL.tyD, List.set_cons_zero, List.set_cons_succ, Bool.not_true, Bool.not_false, DL.forRun, DL.bindT, DL.setAll, DL.items_t, DL.items_l, DL.c_lti, DL.c_lei, DL.c_gti, DL.c_gei, DL.c_eqi, DL.c_nei, DL.wipe, List.map_cons, List.map_nil, DL.fl, reduceCtorEq, false_and, and_false, Nat.reduceEqDiff, DL.noX_ok, DL.items_lD, DL.items_fD, DL.items_tD, DL.mkTup0, DL.mkTup1i, DL.mkTup1t, DL.mkTup2t, DL.mkLst0, DL.mkLst1t, DL.sorted_lD, DL.tuple_lD, DL.len_lD, DL.len_fD, DL.len_tD, c_neRows]
    rw [whlRun, hc, M.bind_ok, noneF]
    by_cases h : rows = []
    · rw [if_pos h, decide_eq_true h]
      exact ⟨_, rfl⟩
    · rw [if_neg h, decide_eq_false h]
      obtain ⟨y4, y5, y6, hf⟩ := next_for hn hF hl s0 (.sh (.list (rows.map rowD))) rows [] ho (by rw [List.length_nil]; omega) x4 x5 x6
      rw [List.nil_append] at hf
      obtain ⟨z4, z5, hq⟩ := find_for s0 (.sh (fD F)) (.sh (.list (rows.map rowD))) (.sh (.list ((nextF F rows).map rowD))) y6 (nextF F rows) y4 y5
      have hlen : 0 < rows.length := List.length_pos_iff.mpr h
      have hnw := next_wt rows ho
      have no : ∀ y ∈ nextF F rows, RowOk n F y := fun y hy => by
        unfold nextF at hy
        obtain ⟨x, hx, hy⟩ := List.mem_flatMap.mp hy
        exact kids_ok hF (ho x hx) y hy
      have mo : mkOwn (lD []) = .own (lD []) := rfl
      have e1 : exec G_rank (.asg 3 true (.lst .nil)) [s0, .sh (fD F), .sh (.list (rows.map rowD)), x3, x4, x5, x6] = .ok (.next [s0, .sh (fD F), .sh (.list (rows.map rowD)), .own (lD []), x4, x5, x6]) := by simp only [DL.execs, DL.exec, DL.ev, DL.evs, DL.evo, DL.evc, DL.evi, DL.evB_bool, DL.getSh0, DL.getSh_s, DL.getB0, DL.getB0o, DL.getB_s, DL.M.bind_ok, DL.M.bind_ex, DL.M.ofO_some, DL.onNext, if_true, if_false, if_pos, Bool.false_eq_true, DL.put, DL.tyD, List.set_cons_zero, List.set_cons_succ, Bool.not_true, Bool.not_false, DL.forRun, DL.bindT, DL.setAll, DL.items_t, DL.items_l, DL.c_lti, DL.c_lei, DL.c_gti, DL.c_gei, DL.c_eqi, DL.c_nei, DL.wipe, List.map_cons, List.map_nil, DL.fl, reduceCtorEq, false_and, and_false, Nat.reduceEqDiff, DL.noX_ok, DL.items_lD, DL.items_fD, DL.items_tD, DL.mkTup0, DL.mkTup1i, DL.mkTup1t, DL.mkTup2t, DL.mkLst0, DL.mkLst1t, DL.sorted_lD, DL.tuple_lD, DL.len_lD, DL.len_fD, DL.len_tD, eq_self, and_self, mo]
      have e2 : exec G_rank (.for_ (.tup [4, 5]) (.seq (.var 2)) (.cons (.for_ (.nm 6) (.rng2 (.bin .add (.blt .maxd (.cons (.var 4) (.cons (.neg (.int 1)) .nil))) (.int 1)) (.blt .len (.cons (.var 1) .nil))) (.cons (.app 3 (.tup (.cons (.bin .add (.var 4) (.lst (.cons (.var 6) .nil))) (.cons (.call ("unlike" : Str) (.cons (.var 5) (.cons (.idx (.var 1) (.var 6)) .nil))) .nil)))) .nil)) .nil)) [s0, .sh (fD F), .sh (.list (rows.map rowD)), .own (lD []), x4, x5, x6] = .ok (.next [s0, .sh (fD F), .sh (.list (rows.map rowD)), .own (.list ((nextF F rows).map rowD)), y4, y5, y6]) := hf
      have e3 : exec G_rank (.frz 3) [s0, .sh (fD F), .sh (.list (rows.map rowD)), .own (.list ((nextF F rows).map rowD)), y4, y5, y6] = .ok (.next [s0, .sh (fD F), .sh (.list (rows.map rowD)), .sh (.list ((nextF F rows).map rowD)), y4, y5, y6]) := rfl
      have e4 : exec G_rank (.for_ (.tup [4, 5]) (.seq (.var 3)) (.cons (.ifs (.cmp .eq (.var 5) (.tup .nil)) (.cons (.ret (.var 4)) .nil) .nil) .nil)) [s0, .sh (fD F), .sh (.list (rows.map rowD)), .sh (.list ((nextF F rows).map rowD)), y4, y5, y6] = .ok (match (nextF F rows).find? (fun x => decide (x.2 = [])) with | some x => .ret (zD x.1) | none => .next [s0, .sh (fD F), .sh (.list (rows.map rowD)), .sh (.list ((nextF F rows).map rowD)), z4, z5, y6]) := hq
      cases hfd : (nextF F rows).find? (fun x => decide (x.2 = [])) with
      | some x =>
        rw [hfd] at e4
        have hb : execs G_rank (.cons (.asg 3 true (.lst .nil)) (.cons (.for_ (.tup [4, 5]) (.seq (.var 2)) (.cons (.for_ (.nm 6) (.rng2 (.bin .add (.blt .maxd (.cons (.var 4) (.cons (.neg (.int 1)) .nil))) (.int 1)) (.blt .len (.cons (.var 1) .nil))) (.cons (.app 3 (.tup (.cons (.bin .add (.var 4) (.lst (.cons (.var 6) .nil))) (.cons (.call ("unlike" : Str) (.cons (.var 5) (.cons (.idx (.var 1) (.var 6)) .nil))) .nil)))) .nil)) .nil)) (.cons (.frz 3) (.cons (.for_ (.tup [4, 5]) (.seq (.var 3)) (.cons (.ifs (.cmp .eq (.var 5) (.tup .nil)) (.cons (.ret (.var 4)) .nil) .nil) .nil)) (.cons (.frz 3) (.cons (.asg 2 false (.var 3)) .nil)))))) [s0, .sh (fD F), .sh (.list (rows.map rowD)), x3, x4, x5, x6] = .ok (.ret (zD x.1)) := by
          rw [ex_cons e1, ex_cons e2, ex_cons e3]
          show onNext (exec _ _ _) _ = _
          rw [e4]
          rfl
        rw [hb]
        exact ⟨[], rfl⟩
      | none =>
        rw [hfd] at e4
        have e5 : exec G_rank (.frz 3) [s0, .sh (fD F), .sh (.list (rows.map rowD)), .sh (.list ((nextF F rows).map rowD)), z4, z5, y6] = .ok (.next [s0, .sh (fD F), .sh (.list (rows.map rowD)), .sh (.list ((nextF F rows).map rowD)), z4, z5, y6]) := rfl
        have hb : execs G_rank (.cons (.asg 3 true (.lst .nil)) (.cons (.for_ (.tup [4, 5]) (.seq (.var 2)) (.cons (.for_ (.nm 6) (.rng2 (.bin .add (.blt .maxd (.cons (.var 4) (.cons (.neg (.int 1)) .nil))) (.int 1)) (.blt .len (.cons (.var 1) .nil))) (.cons (.app 3 (.tup (.cons (.bin .add (.var 4) (.lst (.cons (.var 6) .nil))) (.cons (.call ("unlike" : Str) (.cons (.var 5) (.cons (.idx (.var 1) (.var 6)) .nil))) .nil)))) .nil)) .nil)) (.cons (.frz 3) (.cons (.for_ (.tup [4, 5]) (.seq (.var 3)) (.cons (.ifs (.cmp .eq (.var 5) (.tup .nil)) (.cons (.ret (.var 4)) .nil) .nil) .nil)) (.cons (.frz 3) (.cons (.asg 2 false (.var 3)) .nil)))))) [s0, .sh (fD F), .sh (.list (rows.map rowD)), x3, x4, x5, x6] = .ok (.next [s0, .sh (fD F), .sh (.list ((nextF F rows).map rowD)), .sh (.list ((nextF F rows).map rowD)), z4, z5, y6]) := by
          rw [ex_cons e1, ex_cons e2, ex_cons e3, ex_cons e4, ex_cons e5]
          rfl
        rw [hb]
        obtain ⟨r, ih⟩ := none_whl hn hF hl s0 f N (nextF F rows) no (by omega) (by omega) (by omega) (.sh (.list ((nextF F rows).map rowD))) z4 z5 y6
        exact ⟨r, ih⟩

end LW

namespace LW
open DL
open PySem (Str PyData)
/-! a town has no sum without points -/
theorem one_rep {n : Nat} {F : List (List Int)} (T : Town n F) {i : Nat} {a : List Int} (h : F[i]? = some a) : Rep F a [(i : Int)] := fun j b hb => by
  by_cases z : j = i
  · subst z
    rw [h] at hb
    cases hb
    rw [T.self _ _ h, if_pos (by simp)]
  · rw [T.two i j a b h hb (fun y => z y.symm), if_neg (by simp; omega)]
theorem kids_rep {n : Nat} {F : List (List Int)} (T : Town n F) {x : Row} (o : RowOk n F x) (h : Rep F x.2 x.1) : ∀ y ∈ kidsF F x, Rep F y.2 y.1 ∧ y.2 ≠ [] := fun y hy => by
  unfold kidsF at hy
  obtain ⟨i, hi, rfl⟩ := List.mem_map.mp hy
  rw [List.mem_range'_1] at hi
  obtain ⟨h1, h2, h3, h4⟩ := o
  have hil : i < F.length := by omega
  have hg := List.getElem?_eq_getElem hil
  have hr : Rep F (unl x.2 F[i]) (x.1 ++ [(i : Int)]) := rep_congr (rep_unl (K := n) h3 (T.good _ (List.getElem_mem hil)) h (one_rep T hg)) fun y => by
    rw [mem_unl, List.mem_append]
    by_cases a1 : y ∈ x.1
    · have a2 : y ∉ [(i : Int)] := fun z => by
        have := mem_top a1
        rw [List.mem_singleton] at z
        omega
      exact ⟨fun _ => .inl a1, fun _ => .inl ⟨a1, a2⟩⟩
    · exact ⟨fun z => z.elim (fun q => .inl q.1) fun q => .inr q.1, fun z => z.elim (fun q => absurd q a1) fun q => .inr ⟨q, a1⟩⟩
  have e := hr i _ hg
  rw [if_pos (by simp)] at e
  rw [hg]
  refine ⟨hr, fun z => ?_⟩
  have z : unl x.2 F[i] = [] := z
  rw [z] at e
  have : shN [] F[i] = 0 := rfl
  omega
theorem noneF_town {n : Nat} {F : List (List Int)} (T : Town n F) : ∀ (f : Nat) (rows : List Row), (∀ x ∈ rows, RowOk n F x ∧ Rep F x.2 x.1) → noneF F f rows = none
  | 0, _, _ => rfl
  | f + 1, rows, h => by
    rw [noneF]
    split
    · rfl
    · have hk : ∀ y ∈ nextF F rows, (RowOk n F y ∧ Rep F y.2 y.1) ∧ y.2 ≠ [] := fun y hy => by
        unfold nextF at hy
        obtain ⟨x, hx, hy⟩ := List.mem_flatMap.mp hy
        obtain ⟨o, r⟩ := h x hx
        exact ⟨⟨kids_ok T.good o y hy, (kids_rep T o r y hy).1⟩, (kids_rep T o r y hy).2⟩
      have hn : (nextF F rows).find? (fun x => decide (x.2 = [])) = none := List.find?_eq_none.mpr fun y hy => by simp [(hk y hy).2]
      rw [hn]
      exact noneF_town T f _ fun y hy => (hk y hy).1
theorem m_need_few_ok {m : Nat} (h : m ≤ 12) : m_need_few [.int (m : Int), .int 12] = .ok .none := by
  refine run_end (r := [.sh (.int (m : Int)), .sh (.int 12)]) [.sh (.int (m : Int)), .sh (.int 12)] rfl rfl ?_
  have d : decide ((m : Int) > 12) = false := decide_eq_false (by omega)
  have d2 : decide ((12 : Int) < (m : Int)) = false := decide_eq_false (by omega)
  simp only [f_need_few, DL.execs, DL.exec, DL.ev, DL.evs, DL.evo, DL.evc, DL.evi, DL.evB_bool, DL.getSh0, DL.getSh_s, DL.getB0, DL.getB0o, DL.getB_s, DL.M.bind_ok, DL.M.bind_ex, DL.M.ofO_some, DL.onNext, if_true, if_false, if_pos, Bool.false_eq_true, DL.put, DL.tyD, List.set_cons_zero, List.set_cons_succ, Bool.not_true, Bool.not_false, DL.forRun, DL.bindT, DL.setAll, DL.items_t, DL.items_l, DL.c_lti, DL.c_lei, DL.c_gti, DL.c_gei, DL.c_eqi, DL.c_nei, DL.wipe, List.map_cons, List.map_nil, DL.fl, reduceCtorEq, false_and, and_false, Nat.reduceEqDiff, DL.noX_ok, DL.items_lD, DL.items_fD, DL.items_tD, DL.mkTup0, DL.mkTup1i, DL.mkTup1t, DL.mkTup2t, DL.mkLst0, DL.mkLst1t, DL.sorted_lD, DL.tuple_lD, DL.len_lD, DL.len_fD, DL.len_tD, d, d2]
theorem m_none_sum_ok {n : Nat} (h1 : 1 ≤ n) (hn : n ≤ 8) {F : List (List Int)} (g : goodF (n : Int) F) (hl : F.length ≤ 12) : m_none_sum [.int (n : Int), fD F] = .ok (match noneF F 5000 [([], [])] with | some ps => zD ps | none => .none) := by
  have gi : isFrom 1 8 (.int (n : Int)) = true := by
    show (decide _ && decide _) = true
    rw [Bool.and_eq_true]
    exact ⟨decide_eq_true (by omega), decide_eq_true (by omega)⟩
  have hw : wtS F.length [(([] : List Int), ([] : List Int))] ≤ 4096 := by
    show (2 ^ (F.length - 0) + 0 : Nat) ≤ 4096
    have : (2 : Nat) ^ F.length ≤ 2 ^ 12 := Nat.pow_le_pow_right (by omega) hl
    rw [Nat.sub_zero]
    omega
  have ro : ∀ x ∈ [(([] : List Int), ([] : List Int))], RowOk n F x := fun x hx => by
    rw [List.mem_singleton.mp hx]
    refine ⟨Int.le_refl _, ?_, rfl, Int.le_refl _⟩
    show (-1 : Int) < _
    omega
  obtain ⟨r, hq⟩ := none_whl hn g.1 (by omega) (.sh (.int (n : Int))) 5000 whlFuel [([], [])] ro (by omega) (by omega) (by decide) .un .un .un .un
  have e1 : exec G_rank (.expr (.call ("need_ground" : Str) (.cons (.var 0) .nil))) [.sh (.int (n : Int)), .sh (fD F), .un, .un, .un, .un, .un] = .ok (.next [.sh (.int (n : Int)), .sh (fD F), .un, .un, .un, .un, .un]) := by
    simp only [DL.execs, DL.exec, DL.ev, DL.evs, DL.evo, DL.evc, DL.evi, DL.evB_bool, DL.getSh0, DL.getSh_s, DL.getB0, DL.getB0o, DL.getB_s, DL.M.bind_ok, DL.M.bind_ex, DL.M.ofO_some, DL.onNext, if_true, if_false, if_pos, Bool.false_eq_true, DL.put, DL.tyD, List.set_cons_zero, List.set_cons_succ, Bool.not_true, Bool.not_false, DL.forRun, DL.bindT, DL.setAll, DL.items_t, DL.items_l, DL.c_lti, DL.c_lei, DL.c_gti, DL.c_gei, DL.c_eqi, DL.c_nei, DL.wipe, List.map_cons, List.map_nil, DL.fl, reduceCtorEq, false_and, and_false, Nat.reduceEqDiff, DL.noX_ok, DL.items_lD, DL.items_fD, DL.items_tD, DL.mkTup0, DL.mkTup1i, DL.mkTup1t, DL.mkTup2t, DL.mkLst0, DL.mkLst1t, DL.sorted_lD, DL.tuple_lD, DL.len_lD, DL.len_fD, DL.len_tD, g_none_sum_need_ground, m_need_ground_ok, gi]
  have e2 : exec G_rank (.expr (.call ("need_family" : Str) (.cons (.var 0) (.cons (.var 1) .nil)))) [.sh (.int (n : Int)), .sh (fD F), .un, .un, .un, .un, .un] = .ok (.next [.sh (.int (n : Int)), .sh (fD F), .un, .un, .un, .un, .un]) := by
    simp only [DL.execs, DL.exec, DL.ev, DL.evs, DL.evo, DL.evc, DL.evi, DL.evB_bool, DL.getSh0, DL.getSh_s, DL.getB0, DL.getB0o, DL.getB_s, DL.M.bind_ok, DL.M.bind_ex, DL.M.ofO_some, DL.onNext, if_true, if_false, if_pos, Bool.false_eq_true, DL.put, DL.tyD, List.set_cons_zero, List.set_cons_succ, Bool.not_true, Bool.not_false, DL.forRun, DL.bindT, DL.setAll, DL.items_t, DL.items_l, DL.c_lti, DL.c_lei, DL.c_gti, DL.c_gei, DL.c_eqi, DL.c_nei, DL.wipe, List.map_cons, List.map_nil, DL.fl, reduceCtorEq, false_and, and_false, Nat.reduceEqDiff, DL.noX_ok, DL.items_lD, DL.items_fD, DL.items_tD, DL.mkTup0, DL.mkTup1i, DL.mkTup1t, DL.mkTup2t, DL.mkLst0, DL.mkLst1t, DL.sorted_lD, DL.tuple_lD, DL.len_lD, DL.len_fD, DL.len_tD, g_none_sum_need_family, m_need_family_ok, flawD_good g]
  have e3 : exec G_rank (.expr (.call ("need_few" : Str) (.cons (.blt .len (.cons (.var 1) .nil)) (.cons (.gint ("MOST_GONE_THROUGH" : Str) 12) .nil)))) [.sh (.int (n : Int)), .sh (fD F), .un, .un, .un, .un, .un] = .ok (.next [.sh (.int (n : Int)), .sh (fD F), .un, .un, .un, .un, .un]) := by
    simp only [DL.execs, DL.exec, DL.ev, DL.evs, DL.evo, DL.evc, DL.evi, DL.evB_bool, DL.getSh0, DL.getSh_s, DL.getB0, DL.getB0o, DL.getB_s, DL.M.bind_ok, DL.M.bind_ex, DL.M.ofO_some, DL.onNext, if_true, if_false, if_pos, Bool.false_eq_true, DL.put, DL.tyD, List.set_cons_zero, List.set_cons_succ, Bool.not_true, Bool.not_false, DL.forRun, DL.bindT, DL.setAll, DL.items_t, DL.items_l, DL.c_lti, DL.c_lei, DL.c_gti, DL.c_gei, DL.c_eqi, DL.c_nei, DL.wipe, List.map_cons, List.map_nil, DL.fl, reduceCtorEq, false_and, and_false, Nat.reduceEqDiff, DL.noX_ok, DL.items_lD, DL.items_fD, DL.items_tD, DL.mkTup0, DL.mkTup1i, DL.mkTup1t, DL.mkTup2t, DL.mkLst0, DL.mkLst1t, DL.sorted_lD, DL.tuple_lD, DL.len_lD, DL.len_fD, DL.len_tD, g_none_sum_need_few, m_need_few_ok hl]
  have e4 : exec G_rank (.asg 2 false (.lst (.cons (.tup (.cons (.lst .nil) (.cons (.tup .nil) .nil))) .nil))) [.sh (.int (n : Int)), .sh (fD F), .un, .un, .un, .un, .un] = .ok (.next [.sh (.int (n : Int)), .sh (fD F), .sh (.list ([([], [])].map rowD)), .un, .un, .un, .un]) := rfl
  have e5 : exec G_rank (.whl (.cmp .ne (.var 2) (.lst .nil)) (.cons (.asg 3 true (.lst .nil)) (.cons (.for_ (.tup [4, 5]) (.seq (.var 2)) (.cons (.for_ (.nm 6) (.rng2 (.bin .add (.blt .maxd (.cons (.var 4) (.cons (.neg (.int 1)) .nil))) (.int 1)) (.blt .len (.cons (.var 1) .nil))) (.cons (.app 3 (.tup (.cons (.bin .add (.var 4) (.lst (.cons (.var 6) .nil))) (.cons (.call ("unlike" : Str) (.cons (.var 5) (.cons (.idx (.var 1) (.var 6)) .nil))) .nil)))) .nil)) .nil)) (.cons (.frz 3) (.cons (.for_ (.tup [4, 5]) (.seq (.var 3)) (.cons (.ifs (.cmp .eq (.var 5) (.tup .nil)) (.cons (.ret (.var 4)) .nil) .nil) .nil)) (.cons (.frz 3) (.cons (.asg 2 false (.var 3)) .nil))))))) [.sh (.int (n : Int)), .sh (fD F), .sh (.list ([([], [])].map rowD)), .un, .un, .un, .un] = .ok (match noneF F 5000 [([], [])] with | some ps => .ret (zD ps) | none => .next r) := hq
  cases hN : noneF F 5000 [([], [])] with
  | some ps =>
    rw [hN] at e5
    refine run_ret [.sh (.int (n : Int)), .sh (fD F), .un, .un, .un, .un, .un] rfl rfl ?_
    show execs G_rank (.cons (.expr (.call ("need_ground" : Str) (.cons (.var 0) .nil))) (.cons (.expr (.call ("need_family" : Str) (.cons (.var 0) (.cons (.var 1) .nil)))) (.cons (.expr (.call ("need_few" : Str) (.cons (.blt .len (.cons (.var 1) .nil)) (.cons (.gint ("MOST_GONE_THROUGH" : Str) 12) .nil)))) (.cons (.asg 2 false (.lst (.cons (.tup (.cons (.lst .nil) (.cons (.tup .nil) .nil))) .nil))) (.cons (.whl (.cmp .ne (.var 2) (.lst .nil)) (.cons (.asg 3 true (.lst .nil)) (.cons (.for_ (.tup [4, 5]) (.seq (.var 2)) (.cons (.for_ (.nm 6) (.rng2 (.bin .add (.blt .maxd (.cons (.var 4) (.cons (.neg (.int 1)) .nil))) (.int 1)) (.blt .len (.cons (.var 1) .nil))) (.cons (.app 3 (.tup (.cons (.bin .add (.var 4) (.lst (.cons (.var 6) .nil))) (.cons (.call ("unlike" : Str) (.cons (.var 5) (.cons (.idx (.var 1) (.var 6)) .nil))) .nil)))) .nil)) .nil)) (.cons (.frz 3) (.cons (.for_ (.tup [4, 5]) (.seq (.var 3)) (.cons (.ifs (.cmp .eq (.var 5) (.tup .nil)) (.cons (.ret (.var 4)) .nil) .nil) .nil)) (.cons (.frz 3) (.cons (.asg 2 false (.var 3)) .nil))))))) (.cons (.ret .none) .nil)))))) _ = _
    rw [ex_cons e1, ex_cons e2, ex_cons e3, ex_cons e4]
    show onNext (exec _ _ _) _ = _
    rw [e5]
    rfl
  | none =>
    rw [hN] at e5
    refine run_ret [.sh (.int (n : Int)), .sh (fD F), .un, .un, .un, .un, .un] rfl rfl ?_
    show execs G_rank (.cons (.expr (.call ("need_ground" : Str) (.cons (.var 0) .nil))) (.cons (.expr (.call ("need_family" : Str) (.cons (.var 0) (.cons (.var 1) .nil)))) (.cons (.expr (.call ("need_few" : Str) (.cons (.blt .len (.cons (.var 1) .nil)) (.cons (.gint ("MOST_GONE_THROUGH" : Str) 12) .nil)))) (.cons (.asg 2 false (.lst (.cons (.tup (.cons (.lst .nil) (.cons (.tup .nil) .nil))) .nil))) (.cons (.whl (.cmp .ne (.var 2) (.lst .nil)) (.cons (.asg 3 true (.lst .nil)) (.cons (.for_ (.tup [4, 5]) (.seq (.var 2)) (.cons (.for_ (.nm 6) (.rng2 (.bin .add (.blt .maxd (.cons (.var 4) (.cons (.neg (.int 1)) .nil))) (.int 1)) (.blt .len (.cons (.var 1) .nil))) (.cons (.app 3 (.tup (.cons (.bin .add (.var 4) (.lst (.cons (.var 6) .nil))) (.cons (.call ("unlike" : Str) (.cons (.var 5) (.cons (.idx (.var 1) (.var 6)) .nil))) .nil)))) .nil)) .nil)) (.cons (.frz 3) (.cons (.for_ (.tup [4, 5]) (.seq (.var 3)) (.cons (.ifs (.cmp .eq (.var 5) (.tup .nil)) (.cons (.ret (.var 4)) .nil) .nil) .nil)) (.cons (.frz 3) (.cons (.asg 2 false (.var 3)) .nil))))))) (.cons (.ret .none) .nil)))))) _ = _
    rw [ex_cons e1, ex_cons e2, ex_cons e3, ex_cons e4, ex_cons e5]
    rfl
theorem town_none {n : Nat} (h1 : 1 ≤ n) (hn : n ≤ 8) {F : List (List Int)} (T : Town n F) (g : goodF (n : Int) F) (hl : F.length ≤ 12) : m_none_sum [.int (n : Int), fD F] = .ok .none := by
  rw [m_none_sum_ok h1 hn g hl, noneF_town T 5000 [([], [])] fun x hx => ?_]
  rw [List.mem_singleton.mp hx]
  refine ⟨⟨Int.le_refl _, ?_, rfl, Int.le_refl _⟩, fun i a _ => ?_⟩
  · show (-1 : Int) < _
    omega
  · rw [if_neg (by simp)]
    rfl
end LW

namespace LW
open DL
open PySem (Str PyData)
theorem same_lst (n : Nat) (xs : List D) (h : ∀ x ∈ xs, rs n [x, x] = .ok (.bool true)) : rs (n + 1) [.list xs, .list xs] = .ok (.bool true) := by
  show run _ f__law_same _ = _
  refine run_ret [.sh (.list xs), .sh (.list xs), .un, .un] rfl rfl ?_
  generalize hR : recM G__law_cell_at ("_law_same" : Str) f__law_same n = R
  obtain ⟨x', y', hf⟩ := same_for R (.sh (.list xs)) (.sh (.list xs)) xs (by rw [← hR]; exact h) .un .un
  have c1 : cmpD .isN (.list xs) .none = .ok (.bool false) := rfl
  have c2 : cmpD .ne (.bool false) (.bool false) = .ok (.bool false) := rfl
  have c3 : cmpD .ne (.bool true) (.bool true) = .ok (.bool false) := rfl
  have c4 : bltD .len [.list xs] = .ok (.int xs.length) := rfl
  simp only [f__law_same, DL.execs, DL.exec, DL.ev, DL.evs, DL.evo, DL.evc, DL.evi, DL.evB_bool, DL.getSh0, DL.getSh_s, DL.getB0, DL.getB0o, DL.getB_s, DL.M.bind_ok, DL.M.bind_ex, DL.M.ofO_some, DL.onNext, if_true, if_false, if_pos, Bool.false_eq_true, DL.put, DL.tyD, List.set_cons_zero, List.set_cons_succ, Bool.not_true, Bool.not_false, DL.forRun, DL.bindT, DL.setAll, DL.items_t, DL.items_l, DL.c_lti, DL.c_lei, DL.c_gti, DL.c_gei, DL.c_eqi, DL.c_nei, DL.wipe, List.map_cons, List.map_nil, DL.fl, reduceCtorEq, false_and, and_false, Nat.reduceEqDiff, DL.noX_ok, DL.items_lD, DL.items_fD, DL.items_tD, DL.mkTup0, DL.mkTup1i, DL.mkTup1t, DL.mkTup2t, DL.mkLst0, DL.mkLst1t, DL.sorted_lD, DL.tuple_lD, DL.len_lD, DL.len_fD, DL.len_tD, c1, c2, c3, c4, decide_true] at hf ⊢
  rw [hf]
  simp only [DL.execs, DL.exec, DL.ev, DL.evs, DL.evo, DL.evc, DL.evi, DL.evB_bool, DL.getSh0, DL.getSh_s, DL.getB0, DL.getB0o, DL.getB_s, DL.M.bind_ok, DL.M.bind_ex, DL.M.ofO_some, DL.onNext, if_true, if_false, if_pos, Bool.false_eq_true, DL.put, DL.tyD, List.set_cons_zero, List.set_cons_succ, Bool.not_true, Bool.not_false, DL.forRun, DL.bindT, DL.setAll, DL.items_t, DL.items_l, DL.c_lti, DL.c_lei, DL.c_gti, DL.c_gei, DL.c_eqi, DL.c_nei, DL.wipe, List.map_cons, List.map_nil, DL.fl, reduceCtorEq, false_and, and_false, Nat.reduceEqDiff, DL.noX_ok, DL.items_lD, DL.items_fD, DL.items_tD, DL.mkTup0, DL.mkTup1i, DL.mkTup1t, DL.mkTup2t, DL.mkLst0, DL.mkLst1t, DL.sorted_lD, DL.tuple_lD, DL.len_lD, DL.len_fD, DL.len_tD]
theorem same_ints (n : Nat) (k : List Int) : rs (n + 2) [.list (k.map .int), .list (k.map .int)] = .ok (.bool true) := same_lst (n + 1) _ fun x hx => by
  obtain ⟨i, _, rfl⟩ := List.mem_map.mp hx
  exact same_int n i
theorem law_same_int (i : Int) : m__law_same [.int i, .int i] = .ok (.bool true) := same_int 9 i
theorem law_same_ints (k : List Int) : m__law_same [.list (k.map .int), .list (k.map .int)] = .ok (.bool true) := same_ints 8 k
theorem law_same_lls (F : List (List Int)) : m__law_same [.list (F.map fun k => .list (k.map .int)), .list (F.map fun k => .list (k.map .int))] = .ok (.bool true) := same_lst 9 _ fun x hx => by
  obtain ⟨k, _, rfl⟩ := List.mem_map.mp hx
  exact same_ints 7 k

end LW

namespace LW
open DL
open PySem (Str PyData)
theorem m_cell_at_ok (ns : List Int) (k : Nat) : ∃ c, m__law_cell_at [.list (ns.map .int), .int (k : Int)] = .ok (.int c) := by
  have hl : bltD .len [.list (ns.map .int)] = .ok (.int ns.length) := by
    show M.ok (PyData.int ((ns.map PyData.int).length : Nat)) = _
    rw [List.length_map]
  by_cases h : k < ns.length
  · refine ⟨ns[k], ?_⟩
    refine run_ret [.sh (.list (ns.map .int)), .sh (.int (k : Int))] rfl rfl ?_
    have hx : idxD (.list (ns.map .int)) (.int (k : Int)) = .ok (.int ns[k]) := by
      show M.ofO ((ixN (ns.map PyData.int).length (k : Int)).bind fun j => (ns.map PyData.int)[j]?) = _
      have e : ixN (ns.map PyData.int).length (k : Int) = some k := by
        unfold ixN
        rw [if_pos (by omega), if_pos (by rw [List.length_map]; omega)]
        simp
      rw [e]
      simp [h]
    have hd : decide ((k : Int) < (ns.length : Int)) = true := decide_eq_true (by omega)
    simp only [f__law_cell_at, DL.execs, DL.exec, DL.ev, DL.evs, DL.evo, DL.evc, DL.evi, DL.evB_bool, DL.getSh0, DL.getSh_s, DL.getB0, DL.getB0o, DL.getB_s, DL.M.bind_ok, DL.M.bind_ex, DL.M.ofO_some, DL.onNext, if_true, if_false, if_pos, Bool.false_eq_true, DL.put, DL.tyD, List.set_cons_zero, List.set_cons_succ, Bool.not_true, Bool.not_false, DL.forRun, DL.bindT, DL.setAll, DL.items_t, DL.items_l, DL.c_lti, DL.c_lei, DL.c_gti, DL.c_gei, DL.c_eqi, DL.c_nei, DL.wipe, List.map_cons, List.map_nil, DL.fl, reduceCtorEq, false_and, and_false, Nat.reduceEqDiff, DL.noX_ok, DL.items_lD, DL.items_fD, DL.items_tD, DL.mkTup0, DL.mkTup1i, DL.mkTup1t, DL.mkTup2t, DL.mkLst0, DL.mkLst1t, DL.sorted_lD, DL.tuple_lD, DL.len_lD, DL.len_fD, DL.len_tD, hl, hd, hx]
  · refine ⟨0, ?_⟩
    refine run_ret [.sh (.list (ns.map .int)), .sh (.int (k : Int))] rfl rfl ?_
    have hd : decide ((k : Int) < (ns.length : Int)) = false := decide_eq_false (by omega)
    simp only [f__law_cell_at, DL.execs, DL.exec, DL.ev, DL.evs, DL.evo, DL.evc, DL.evi, DL.evB_bool, DL.getSh0, DL.getSh_s, DL.getB0, DL.getB0o, DL.getB_s, DL.M.bind_ok, DL.M.bind_ex, DL.M.ofO_some, DL.onNext, if_true, if_false, if_pos, Bool.false_eq_true, DL.put, DL.tyD, List.set_cons_zero, List.set_cons_succ, Bool.not_true, Bool.not_false, DL.forRun, DL.bindT, DL.setAll, DL.items_t, DL.items_l, DL.c_lti, DL.c_lei, DL.c_gti, DL.c_gei, DL.c_eqi, DL.c_nei, DL.wipe, List.map_cons, List.map_nil, DL.fl, reduceCtorEq, false_and, and_false, Nat.reduceEqDiff, DL.noX_ok, DL.items_lD, DL.items_fD, DL.items_tD, DL.mkTup0, DL.mkTup1i, DL.mkTup1t, DL.mkTup2t, DL.mkLst0, DL.mkLst1t, DL.sorted_lD, DL.tuple_lD, DL.len_lD, DL.len_fD, DL.len_tD, hl, hd]

end LW

namespace LW
open DL
open PySem (Str PyData)
/-! which families have a sum without points: own sets, rows -/
theorem unl_self {p : Int} {a : List Int} (ha : goodS p (-1) a = true) : unl a a = [] := gs2 (good_unl ha ha) (by rfl) fun x => by rw [mem_unl]; simp
theorem unl_twice {p : Int} {a b : List Int} (ha : goodS p (-1) a = true) (hb : goodS p (-1) b = true) : unl a (unl a b) = b := gs2 (good_unl ha (good_unl ha hb)) hb fun x => by
  rw [mem_unl, mem_unl]
  by_cases h1 : x ∈ a <;> by_cases h2 : x ∈ b <;> simp [h1, h2]
/-- each next set is no sum of those ahead -/
def Ind : List (List Int) → List (List Int) → Prop
  | _, [] => True
  | H, a :: G => a ∉ H ∧ Ind (wsum a H) G
theorem last_unl {p : Int} {r s : List Int} (hr : goodS p (-1) r = true) (hs : goodS p (-1) s = true) (nr : r ≠ []) (ns : s ≠ []) (h : lastI r ≠ lastI s) : unl r s ≠ [] ∧ (lastI (unl r s) = lastI r ∨ lastI (unl r s) = lastI s) := by
  obtain ⟨r1, r2⟩ := lastI_max hr nr
  obtain ⟨s1, s2⟩ := lastI_max hs ns
  have g := good_unl hr hs
  by_cases z : lastI r < lastI s
  · have m : lastI s ∈ unl r s := mem_unl.mpr (.inr ⟨s1, fun y => by have := r2 _ y; omega⟩)
    have nz : unl r s ≠ [] := List.ne_nil_of_mem m
    obtain ⟨u1, u2⟩ := lastI_max g nz
    refine ⟨nz, .inr ?_⟩
    have a1 := u2 _ m
    rcases mem_unl.mp u1 with ⟨q, _⟩ | ⟨q, _⟩
    · have := r2 _ q; omega
    · have := s2 _ q; omega
  · have m : lastI r ∈ unl r s := mem_unl.mpr (.inl ⟨r1, fun y => by have := s2 _ y; omega⟩)
    have nz : unl r s ≠ [] := List.ne_nil_of_mem m
    obtain ⟨u1, u2⟩ := lastI_max g nz
    refine ⟨nz, .inl ?_⟩
    have a1 := u2 _ m
    rcases mem_unl.mp u1 with ⟨q, _⟩ | ⟨q, _⟩
    · have := r2 _ q; omega
    · have := s2 _ q; omega
/-- the heads part all sums of the sets ahead -/
structure InvP (n k : Nat) (H : List (List Int)) (hs : List Hd) : Prop where
  grp : Grp (n : Int) H
  ok : HdOk n k hs
  mem : ∀ p q, hGet hs p = some q → q.1 ∈ H
  red : ∀ z ∈ H, z = [] ∨ hGet hs (lastI z) ≠ none
theorem red_ps (hs : List Hd) : ∀ (f : Nat) (r ps qs : List Int), (redF hs f r ps).1 = (redF hs f r qs).1
  | 0, r, ps, qs => rfl
  | f + 1, r, ps, qs => by
    rw [redF, redF]
    split
    · rfl
    · cases hGet hs (lastI r) with
      | none => rfl
      | some q => exact red_ps hs f _ _ _
theorem red_in {n k : Nat} {H : List (List Int)} {hs : List Hd} (i : InvP n k H hs) : ∀ (f : Nat) (r ps : List Int), goodS (n : Int) (-1) r = true → unl r (redF hs f r ps).1 ∈ H
  | 0, r, ps, g => by show unl r r ∈ H; rw [unl_self g]; exact i.grp.nil
  | f + 1, r, ps, g => by
    rw [redF]
    split
    · show unl r r ∈ H; rw [unl_self g]; exact i.grp.nil
    · cases e : hGet hs (lastI r) with
      | none => show unl r r ∈ H; rw [unl_self g]; exact i.grp.nil
      | some q =>
        have gq := i.grp.good _ (i.mem _ _ e)
        have gr := good_unl g gq
        have h := red_in i f (unl r q.1) (unl ps q.2) gr
        have gz : goodS (n : Int) (-1) (redF hs f (unl r q.1) (unl ps q.2)).1 = true := by
          rw [red_ps hs f (unl r q.1) (unl ps q.2) []]
          exact (red_good (n := n) (K := k) i.ok f (unl r q.1) [] gr (by rfl)).1
        have e2 : unl r (redF hs f (unl r q.1) (unl ps q.2)).1 = unl (unl (unl r q.1) (redF hs f (unl r q.1) (unl ps q.2)).1) q.1 := gs2 (good_unl g gz) (good_unl (good_unl gr gz) gq) fun x => by
          rw [mem_unl, mem_unl, mem_unl, mem_unl]
          by_cases h1 : x ∈ r <;> by_cases h2 : x ∈ q.1 <;> by_cases h3 : x ∈ (redF hs f (unl r q.1) (unl ps q.2)).1 <;> simp [h1, h2, h3]
        show unl r (redF hs f (unl r q.1) (unl ps q.2)).1 ∈ H
        rw [e2]
        exact i.grp.cl _ h _ (i.mem _ _ e)
theorem hGet_app {hs gs : List Hd} {p : Int} (h : hGet hs p ≠ none) : hGet (hs ++ gs) p ≠ none := by
  unfold hGet at h ⊢
  rw [List.find?_append]
  cases e : hs.find? (fun h => decide (h.1 = p)) with
  | none => rw [e] at h; exact absurd rfl h
  | some x => simp
theorem hGet_last {hs : List Hd} {p : Int} {q : List Int × List Int} : hGet (hs ++ [(p, q)]) p ≠ none := by
  unfold hGet
  rw [List.find?_append]
  cases e : hs.find? (fun h => decide (h.1 = p)) with
  | none => simp
  | some x => simp
theorem part_ind {n : Nat} (hn : n ≤ 8) : ∀ (G : List (List Int)) (k : Nat) (hs : List Hd) (own : List Int) (told H : List (List Int)), InvP n k H hs → (∀ a ∈ G, goodS (n : Int) (-1) a = true) →
    (partF k G hs own told).1.length ≤ own.length + G.length ∧ ((partF k G hs own told).1.length = own.length + G.length ↔ Ind H G)
  | [], k, hs, own, told, H, _, _ => ⟨Nat.le_refl _, fun _ => trivial, fun _ => rfl⟩
  | a :: G, k, hs, own, told, H, i, gG => by
    have ga := gG a List.mem_cons_self
    have gG' : ∀ b ∈ G, goodS (n : Int) (-1) b = true := fun b hb => gG b (List.mem_cons_of_mem _ hb)
    have ri := red_in i 9 a [] ga
    have rg := red_good i.ok 9 a [] ga (by rfl)
    have re := red_end i.ok 9 a [] ga (by have := far_le ga; omega)
    rw [partF]
    generalize redF hs 9 a [] = q at *
    by_cases hz : q.1 = []
    · rw [if_pos hz]
      obtain ⟨i1, _⟩ := part_ind hn G (k + 1) hs own (told ++ [q.2]) H ⟨i.grp, hd_mono i.ok, i.mem, i.red⟩ gG'
      have ha : a ∈ H := by rw [hz, unl_nil ga] at ri; exact ri
      refine ⟨by rw [List.length_cons]; omega, fun e => ?_, fun e => absurd ha e.1⟩
      rw [List.length_cons] at e
      omega
    · rw [if_neg hz]
      have hg := re.resolve_left hz
      have na : a ∉ H := fun ha => by
        have := i.grp.cl _ ha _ ri
        rw [unl_twice ga rg.1] at this
        exact (i.red _ this).elim hz fun z => z hg
      have gk := one_good k
      have gm := goodS_mono (p := (k : Int)) (n := ((k + 1 : Nat) : Int)) (by omega) _ _ rg.2
      have i' : InvP n (k + 1) (wsum a H) (hs ++ [(lastI q.1, (q.1, unl q.2 [(k : Int)]))]) := by
        refine ⟨grp_wsum i.grp ga, ⟨fun p s h => ?_⟩, fun p s h => ?_, fun z hzm => ?_⟩
        · rcases hGet_snoc h with h | ⟨h1, h2⟩
          · exact (hd_mono i.ok).ok p s h
          · subst h1 h2; exact ⟨rg.1, hz, rfl, good_unl gm gk⟩
        · rcases hGet_snoc h with h | ⟨h1, h2⟩
          · exact wsum_sub (i.mem p s h)
          · subst h1 h2
            exact mem_wsum.mpr (.inr ⟨_, ri, unl_twice ga rg.1⟩)
        · rcases mem_wsum.mp hzm with hzm | ⟨b, hb, e⟩
          · exact (i.red z hzm).imp id hGet_app
          · have gb := i.grp.good _ hb
            have gz : goodS (n : Int) (-1) z = true := e ▸ good_unl ga gb
            have ec : unl q.1 z = unl (unl a q.1) b := by
              rw [← e]
              exact gs2 (good_unl rg.1 (good_unl ga gb)) (good_unl (good_unl ga rg.1) gb) fun x => by
                rw [mem_unl, mem_unl, mem_unl, mem_unl]
                by_cases h1 : x ∈ a <;> by_cases h2 : x ∈ b <;> by_cases h3 : x ∈ q.1 <;> simp [h1, h2, h3]
            have hc : unl q.1 z ∈ H := by rw [ec]; exact i.grp.cl _ ri _ hb
            have gc := i.grp.good _ hc
            have ez : z = unl q.1 (unl q.1 z) := (unl_twice rg.1 gz).symm
            rcases i.red _ hc with hc0 | hc1
            · rw [hc0, unl_nil rg.1] at ez
              rw [ez]
              exact .inr hGet_last
            · by_cases c0 : unl q.1 z = []
              · rw [c0, unl_nil rg.1] at ez
                rw [ez]
                exact .inr hGet_last
              · have nl : lastI q.1 ≠ lastI (unl q.1 z) := fun y => hc1 (y ▸ hg)
                obtain ⟨_, l2⟩ := last_unl rg.1 gc hz c0 nl
                rw [← ez] at l2
                rcases l2 with l2 | l2
                · rw [l2]; exact .inr hGet_last
                · rw [l2]; exact .inr (hGet_app hc1)
      obtain ⟨i1, i2⟩ := part_ind hn G (k + 1) _ (own ++ [(k : Int)]) (told ++ [[(k : Int)]]) (wsum a H) i' gG'
      rw [List.length_append, List.length_singleton] at i1 i2
      refine ⟨by rw [List.length_cons]; omega, fun e => ⟨na, i2.mp (by rw [List.length_cons] at e; omega)⟩, fun e => by have := i2.mpr e.2; rw [List.length_cons]; omega⟩
theorem rank_ind {n : Nat} (hn : n ≤ 8) {F : List (List Int)} (hF : ∀ a ∈ F, goodS (n : Int) (-1) a = true) : (partF 0 F [] [] []).1.length = F.length ↔ Ind [[]] F := by
  have := (part_ind hn F 0 [] [] [] [[]] ⟨grp0 _, ⟨fun p q h => by cases h⟩, fun p q h => (by cases h), fun z hz => .inl (List.mem_singleton.mp hz)⟩ hF).2
  rw [List.length_nil, Nat.zero_add] at this
  exact this
/-- some sets of G come to one of H -/
def Dep (H G : List (List Int)) : Prop := ∃ T : List (List Int), T ≠ [] ∧ T.Sublist G ∧ T.foldl unl [] ∈ H
theorem fold_good {p : Int} : ∀ (T : List (List Int)) (x : List Int), goodS p (-1) x = true → (∀ a ∈ T, goodS p (-1) a = true) → goodS p (-1) (T.foldl unl x) = true
  | [], x, h, _ => h
  | a :: T, x, h, hT => fold_good T _ (good_unl h (hT a List.mem_cons_self)) fun b hb => hT b (List.mem_cons_of_mem _ hb)
theorem nil_unl {p : Int} {a : List Int} (ha : goodS p (-1) a = true) : unl [] a = a := by rw [unl_comm (p := p) (by rfl) ha, unl_nil ha]
theorem fold_from {p : Int} : ∀ (T : List (List Int)) (x : List Int), goodS p (-1) x = true → (∀ a ∈ T, goodS p (-1) a = true) → T.foldl unl x = unl x (T.foldl unl [])
  | [], x, h, _ => (unl_nil h).symm
  | a :: T, x, h, hT => by
    have ga := hT a List.mem_cons_self
    have hT' : ∀ b ∈ T, goodS p (-1) b = true := fun b hb => hT b (List.mem_cons_of_mem _ hb)
    show T.foldl unl (unl x a) = unl x (T.foldl unl (unl [] a))
    rw [fold_from T (unl x a) (good_unl h ga) hT', fold_from T (unl [] a) (good_unl (by rfl) ga) hT', nil_unl ga, unl_left h ga (fold_good T [] (by rfl) hT')]
theorem ind_dep {n : Nat} : ∀ (G H : List (List Int)), Grp (n : Int) H → (∀ a ∈ G, goodS (n : Int) (-1) a = true) → (Ind H G ↔ ¬ Dep H G)
  | [], H, _, _ => ⟨fun _ ⟨T, h1, h2, _⟩ => h1 (List.sublist_nil.mp h2), fun _ => trivial⟩
  | a :: G, H, g, hG => by
    have ga := hG a List.mem_cons_self
    have hG' : ∀ b ∈ G, goodS (n : Int) (-1) b = true := fun b hb => hG b (List.mem_cons_of_mem _ hb)
    have ih := ind_dep G (wsum a H) (grp_wsum g ga) hG'
    have key : ∀ T : List (List Int), T.Sublist G → (a :: T).foldl unl [] = unl a (T.foldl unl []) ∧ goodS (n : Int) (-1) (T.foldl unl []) = true := fun T hT => by
      have hT' : ∀ b ∈ T, goodS (n : Int) (-1) b = true := fun b hb => hG' b (hT.subset hb)
      refine ⟨?_, fold_good T [] (by rfl) hT'⟩
      show T.foldl unl (unl [] a) = _
      rw [nil_unl ga, fold_from T a ga hT']
    refine ⟨fun ⟨h1, h2⟩ ⟨T, t1, t2, t3⟩ => ?_, fun h => ⟨fun ha => h ⟨[a], by simp, by simp, by show unl [] a ∈ H; rw [nil_unl ga]; exact ha⟩, ih.mpr fun ⟨T, t1, t2, t3⟩ => ?_⟩⟩
    · have nd := ih.mp h2
      cases T with
      | nil => exact t1 rfl
      | cons b T =>
        rcases List.sublist_cons_iff.mp t2 with t2 | ⟨r, e, t2⟩
        · exact nd ⟨b :: T, t1, t2, wsum_sub t3⟩
        · cases e
          obtain ⟨k1, k2⟩ := key T t2
          rw [k1] at t3
          by_cases z : T = []
          · subst z
            rw [show ([] : List (List Int)).foldl unl [] = [] from rfl, unl_nil ga] at t3
            exact h1 t3
          · exact nd ⟨T, z, t2, mem_wsum.mpr (.inr ⟨_, t3, unl_twice ga k2⟩)⟩
    · rcases mem_wsum.mp t3 with t3 | ⟨c, hc, e⟩
      · exact h ⟨T, t1, t2.cons _, t3⟩
      · obtain ⟨k1, k2⟩ := key T t2
        refine h ⟨a :: T, by simp, t2.cons₂ _, ?_⟩
        rw [k1, ← e, unl_twice ga (g.good _ hc)]
        exact hc
/-- a row from which some further sets come to none -/
def PRow (F : List (List Int)) (rows : List Row) (m : Nat) : Prop := ∃ x ∈ rows, ∃ T : List (List Int), T ≠ [] ∧ T.length ≤ m ∧ T.Sublist (F.drop (topI x.1 + 1).toNat) ∧ T.foldl unl x.2 = []
theorem kid_mem {F : List (List Int)} {x : Row} {i : Nat} (h : (topI x.1 + 1).toNat ≤ i) (hi : i < F.length) : (x.1 ++ [(i : Int)], unl x.2 ((F[i]?).getD [])) ∈ kidsF F x := by
  unfold kidsF
  exact List.mem_map.mpr ⟨i, by rw [List.mem_range'_1]; omega, rfl⟩
theorem sub_at {b : List Int} {T L : List (List Int)} (h : (b :: T).Sublist L) : ∃ i, L[i]? = some b ∧ T.Sublist (L.drop (i + 1)) := by
  obtain ⟨r1, r2, e, hb, hT⟩ := List.cons_sublist_iff.mp h
  obtain ⟨i, hi, e2⟩ := List.mem_iff_getElem.mp hb
  refine ⟨i, ?_, ?_⟩
  · rw [e, List.getElem?_append_left hi, List.getElem?_eq_getElem hi, e2]
  · rw [e]
    refine hT.trans ?_
    rw [List.drop_append, show i + 1 - r1.length = 0 by omega, List.drop_zero]
    exact List.sublist_append_right _ _
theorem none_of {n : Nat} {F : List (List Int)} (hF : ∀ a ∈ F, goodS (n : Int) (-1) a = true) : ∀ (f : Nat) (rows : List Row) (m : Nat), (∀ x ∈ rows, RowOk n F x) → m < f → PRow F rows m → noneF F f rows ≠ none
  | 0, rows, m, _, h, _ => by omega
  | f + 1, rows, m, ho, hm, ⟨x, hx, T, t1, t2, t3, t4⟩ => by
    rw [noneF, if_neg (List.ne_nil_of_mem hx)]
    cases T with
    | nil => exact absurd rfl t1
    | cons b T =>
      obtain ⟨i, e1, e2⟩ := sub_at t3
      rw [List.getElem?_drop] at e1
      rw [List.drop_drop] at e2
      have o := ho x hx
      have hil : (topI x.1 + 1).toNat + i < F.length := (List.getElem?_eq_some_iff.mp e1).1
      have km := kid_mem (F := F) (x := x) (Nat.le_add_right _ i) hil
      rw [e1] at km
      have hy : (x.1 ++ [(((topI x.1 + 1).toNat + i : Nat) : Int)], unl x.2 b) ∈ nextF F rows := List.mem_flatMap.mpr ⟨x, hx, km⟩
      cases hf : (nextF F rows).find? (fun x => decide (x.2 = [])) with
      | some y => simp
      | none =>
        have ny := List.find?_eq_none.mp hf _ hy
        have ny : unl x.2 b ≠ [] := by simpa using ny
        have nT : T ≠ [] := fun z => by subst z; exact ny t4
        have no : ∀ y ∈ nextF F rows, RowOk n F y := fun y hy => by
          obtain ⟨x, hx, hy⟩ := List.mem_flatMap.mp hy
          exact kids_ok hF (ho x hx) y hy
        have hl := o.lo
        have ht : topI (x.1 ++ [(((topI x.1 + 1).toNat + i : Nat) : Int)]) = (((topI x.1 + 1).toNat + i : Nat) : Int) := topI_snoc (by omega)
        rw [List.length_cons] at t2
        refine none_of hF f (nextF F rows) (m - 1) no (by omega) ⟨_, hy, T, nT, by omega, ?_, t4⟩
        show T.Sublist (F.drop (topI (x.1 ++ [(((topI x.1 + 1).toNat + i : Nat) : Int)]) + 1).toNat)
        rw [ht]
        have : (((((topI x.1 + 1).toNat + i : Nat) : Int)) + 1).toNat = (topI x.1 + 1).toNat + (i + 1) := by omega
        rw [this]
        exact e2
theorem some_of {n : Nat} {F : List (List Int)} (hF : ∀ a ∈ F, goodS (n : Int) (-1) a = true) : ∀ (f : Nat) (rows : List Row), (∀ x ∈ rows, RowOk n F x) → noneF F f rows ≠ none → ∃ m, PRow F rows m
  | 0, rows, _, h => absurd rfl h
  | f + 1, rows, ho, h => by
    have lift : ∀ y ∈ nextF F rows, ∀ T : List (List Int), T.Sublist (F.drop (topI y.1 + 1).toNat) → T.foldl unl y.2 = [] → ∃ m, PRow F rows m := fun y hy T t3 t4 => by
      obtain ⟨x, hx, hy⟩ := List.mem_flatMap.mp hy
      unfold kidsF at hy
      obtain ⟨i, hi, rfl⟩ := List.mem_map.mp hy
      rw [List.mem_range'_1] at hi
      have o := ho x hx
      have hl := o.lo
      have hil : i < F.length := by omega
      have ht : topI (x.1 ++ [(i : Int)]) = (i : Int) := topI_snoc (by omega)
      have t3 : T.Sublist (F.drop (topI (x.1 ++ [(i : Int)]) + 1).toNat) := t3
      rw [ht] at t3
      have eg : F[i]? = some F[i] := List.getElem?_eq_getElem hil
      rw [eg] at t4
      refine ⟨_, x, hx, F[i] :: T, by simp, Nat.le_refl _, ?_, t4⟩
      have e2 : F.drop (topI x.1 + 1).toNat = (F.drop (topI x.1 + 1).toNat).take (i - (topI x.1 + 1).toNat) ++ F[i] :: F.drop (i + 1) := by
        conv => lhs; rw [← List.take_append_drop (i - (topI x.1 + 1).toNat) (F.drop (topI x.1 + 1).toNat)]
        rw [List.drop_drop, show (topI x.1 + 1).toNat + (i - (topI x.1 + 1).toNat) = i by omega, List.drop_eq_getElem_cons hil]
      rw [e2]
      refine List.Sublist.trans (List.Sublist.cons₂ _ ?_) (List.sublist_append_right _ _)
      rw [show ((i : Int) + 1).toNat = i + 1 by omega] at t3
      exact t3
    rw [noneF] at h
    split at h
    · exact absurd rfl h
    · cases hf : (nextF F rows).find? (fun x => decide (x.2 = [])) with
      | some y =>
        have hy := List.mem_of_find?_eq_some hf
        have e := List.find?_some hf
        have e : y.2 = [] := of_decide_eq_true e
        exact lift y hy [] (List.nil_sublist _) e
      | none =>
        rw [hf] at h
        have no : ∀ y ∈ nextF F rows, RowOk n F y := fun y hy => by
          obtain ⟨x, hx, hy⟩ := List.mem_flatMap.mp hy
          exact kids_ok hF (ho x hx) y hy
        obtain ⟨m, y, hy, T, _, _, t3, t4⟩ := some_of hF f (nextF F rows) no h
        exact lift y hy T t3 t4
theorem rows0 {n : Nat} {F : List (List Int)} : ∀ x ∈ [(([] : List Int), ([] : List Int))], RowOk n F x := fun x hx => by
  rw [List.mem_singleton.mp hx]
  refine ⟨Int.le_refl _, ?_, rfl, Int.le_refl _⟩
  show (-1 : Int) < _
  omega
theorem none_dep {n : Nat} {F : List (List Int)} (hF : ∀ a ∈ F, goodS (n : Int) (-1) a = true) (hl : F.length < 5000) : noneF F 5000 [([], [])] = none ↔ ¬ Dep [[]] F := by
  refine ⟨fun h ⟨T, t1, t2, t3⟩ => ?_, fun h => ?_⟩
  · refine none_of hF 5000 _ F.length rows0 hl ⟨_, List.mem_singleton.mpr rfl, T, t1, t2.length_le, ?_, List.mem_singleton.mp t3⟩ h
    exact t2
  · by_cases e : noneF F 5000 [([], [])] = none
    · exact e
    · obtain ⟨m, x, hx, T, t1, _, t3, t4⟩ := some_of hF 5000 _ rows0 e
      rw [List.mem_singleton.mp hx] at t3 t4
      exact absurd ⟨T, t1, t3, List.mem_singleton.mpr t4⟩ h
theorem none_rank {n : Nat} (hn : n ≤ 8) {F : List (List Int)} (hF : ∀ a ∈ F, goodS (n : Int) (-1) a = true) (hl : F.length < 5000) : noneF F 5000 [([], [])] = none ↔ (partF 0 F [] [] []).1.length = F.length :=
  (none_dep hF hl).trans (((ind_dep F [[]] (grp0 _) hF).symm).trans (rank_ind hn hF).symm)

end LW

namespace LW
open DL
open PySem (Str PyData)
/-! the law's own walk over all rows -/
theorem tot_go {n : Nat} (hn : n ≤ 8) (s0 : Sl) : ∀ (T : List (List Int)) (A : List Int), goodS (n : Int) (-1) A = true → (∀ k ∈ T, goodS (n : Int) (-1) k = true) → ∀ x, ∃ x', forRun (.nm 2) (execs G__law_unlike (.cons (.asg 1 false (.call ("_law_unlike" : Str) (.cons (.var 1) (.cons (.var 2) .nil)))) .nil)) (T.map tD) [s0, .sh (tD A), x] = .ok (.next [s0, .sh (tD (T.foldl unl A)), x'])
  | [], A, _, _, x => ⟨x, rfl⟩
  | k :: T, A, gA, gT, x => by
    have gk := gT k List.mem_cons_self
    obtain ⟨x', ih⟩ := tot_go hn s0 T (unl A k) (good_unl gA gk) (fun q hq => gT q (List.mem_cons_of_mem _ hq)) (.sh (tD k))
    refine ⟨x', ?_⟩
    rw [List.map_cons]
    simp only [DL.execs, DL.exec, DL.ev, DL.evs, DL.evo, DL.evc, DL.evi, DL.evB_bool, DL.getSh0, DL.getSh_s, DL.getB0, DL.getB0o, DL.getB_s, DL.M.bind_ok, DL.M.bind_ex, DL.M.ofO_some, DL.onNext, if_true, if_false, if_pos, Bool.false_eq_true, DL.put, DL.tyD, List.set_cons_zero, List.set_cons_succ, Bool.not_true, Bool.not_false, DL.forRun, DL.bindT, DL.setAll, DL.items_t, DL.items_l, DL.c_lti, DL.c_lei, DL.c_gti, DL.c_gei, DL.c_eqi, DL.c_nei, DL.wipe, List.map_cons, List.map_nil, DL.fl, reduceCtorEq, false_and, and_false, Nat.reduceEqDiff, DL.noX_ok, DL.items_lD, DL.items_fD, DL.items_tD, DL.mkTup0, DL.mkTup1i, DL.mkTup1t, DL.mkTup2t, DL.mkLst0, DL.mkLst1t, DL.sorted_lD, DL.tuple_lD, DL.len_lD, DL.len_fD, DL.len_tD] at ih
    simp only [DL.execs, DL.exec, DL.ev, DL.evs, DL.evo, DL.evc, DL.evi, DL.evB_bool, DL.getSh0, DL.getSh_s, DL.getB0, DL.getB0o, DL.getB_s, DL.M.bind_ok, DL.M.bind_ex, DL.M.ofO_some, DL.onNext, if_true, if_false, if_pos, Bool.false_eq_true, DL.put, DL.tyD, List.set_cons_zero, List.set_cons_succ, Bool.not_true, Bool.not_false, DL.forRun, DL.bindT, DL.setAll, DL.items_t, DL.items_l, DL.c_lti, DL.c_lei, DL.c_gti, DL.c_gei, DL.c_eqi, DL.c_nei, DL.wipe, List.map_cons, List.map_nil, DL.fl, reduceCtorEq, false_and, and_false, Nat.reduceEqDiff, DL.noX_ok, DL.items_lD, DL.items_fD, DL.items_tD, DL.mkTup0, DL.mkTup1i, DL.mkTup1t, DL.mkTup2t, DL.mkLst0, DL.mkLst1t, DL.sorted_lD, DL.tuple_lD, DL.len_lD, DL.len_fD, DL.len_tD, g__law_total__law_unlike, m_law_unlike_ok (Nat.le_trans (good_len hn gA) (by omega)) (Nat.le_trans (good_len hn gk) (by omega))]
    exact ih
theorem m_total_ok {n : Nat} (hn : n ≤ 8) {T : List (List Int)} (gT : ∀ k ∈ T, goodS (n : Int) (-1) k = true) : m__law_total [lD T] = .ok (tD (T.foldl unl [])) := by
  obtain ⟨x', h⟩ := tot_go hn (.sh (lD T)) T [] rfl gT .un
  refine run_ret [.sh (lD T), .un, .un] rfl rfl ?_
  simp only [DL.execs, DL.exec, DL.ev, DL.evs, DL.evo, DL.evc, DL.evi, DL.evB_bool, DL.getSh0, DL.getSh_s, DL.getB0, DL.getB0o, DL.getB_s, DL.M.bind_ok, DL.M.bind_ex, DL.M.ofO_some, DL.onNext, if_true, if_false, if_pos, Bool.false_eq_true, DL.put, DL.tyD, List.set_cons_zero, List.set_cons_succ, Bool.not_true, Bool.not_false, DL.bindT, DL.setAll, DL.items_t, DL.items_l, DL.c_lti, DL.c_lei, DL.c_gti, DL.c_gei, DL.c_eqi, DL.c_nei, DL.wipe, List.map_cons, List.map_nil, DL.fl, reduceCtorEq, false_and, and_false, Nat.reduceEqDiff, DL.noX_ok, DL.items_lD, DL.items_fD, DL.items_tD, DL.mkTup0, DL.mkTup1i, DL.mkTup1t, DL.mkTup2t, DL.mkLst0, DL.mkLst1t, DL.sorted_lD, DL.tuple_lD, DL.len_lD, DL.len_fD, DL.len_tD] at h
  simp only [f__law_total, DL.execs, DL.exec, DL.ev, DL.evs, DL.evo, DL.evc, DL.evi, DL.evB_bool, DL.getSh0, DL.getSh_s, DL.getB0, DL.getB0o, DL.getB_s, DL.M.bind_ok, DL.M.bind_ex, DL.M.ofO_some, DL.onNext, if_true, if_false, if_pos, Bool.false_eq_true, DL.put, DL.tyD, List.set_cons_zero, List.set_cons_succ, Bool.not_true, Bool.not_false, DL.bindT, DL.setAll, DL.items_t, DL.items_l, DL.c_lti, DL.c_lei, DL.c_gti, DL.c_gei, DL.c_eqi, DL.c_nei, DL.wipe, List.map_cons, List.map_nil, DL.fl, reduceCtorEq, false_and, and_false, Nat.reduceEqDiff, DL.noX_ok, DL.items_lD, DL.items_fD, DL.items_tD, DL.mkTup0, DL.mkTup1i, DL.mkTup1t, DL.mkTup2t, DL.mkLst0, DL.mkLst1t, DL.sorted_lD, DL.tuple_lD, DL.len_lD, DL.len_fD, DL.len_tD, h]
def pick (F : List (List Int)) (ps : List Int) : List (List Int) := ps.map fun k => (F[k.toNat]?).getD []
structure RowT (n : Nat) (F : List (List Int)) (x : Row) : Prop where
  ok : RowOk n F x
  rg : ∀ k ∈ x.1, 0 ≤ k ∧ k < F.length
  tot : x.2 = (pick F x.1).foldl unl []
theorem kids_t {n : Nat} {F : List (List Int)} (hF : ∀ a ∈ F, goodS (n : Int) (-1) a = true) {x : Row} (o : RowT n F x) : ∀ y ∈ kidsF F x, RowT n F y := fun y hy => by
  have ho := kids_ok hF o.ok y hy
  unfold kidsF at hy
  obtain ⟨i, hi, rfl⟩ := List.mem_map.mp hy
  rw [List.mem_range'_1] at hi
  have hl := o.ok.lo
  refine ⟨ho, fun k hk => ?_, ?_⟩
  · rcases List.mem_append.mp hk with hk | hk
    · exact o.rg k hk
    · rw [List.mem_singleton.mp hk]; omega
  · show unl x.2 _ = (pick F (x.1 ++ [(i : Int)])).foldl unl []
    unfold pick
    rw [List.map_append, List.foldl_append, o.tot]
    rfl
theorem next_t {n : Nat} {F : List (List Int)} (hF : ∀ a ∈ F, goodS (n : Int) (-1) a = true) {rows : List Row} (o : ∀ x ∈ rows, RowT n F x) : ∀ y ∈ nextF F rows, RowT n F y := fun y hy => by
  obtain ⟨x, hx, hy⟩ := List.mem_flatMap.mp hy
  exact kids_t hF (o x hx) y hy
theorem max_row {ps : List Int} (h : -1 ≤ topI ps) : bltD .max [zD (ps ++ [-1])] = .ok (.int (topI ps)) := by
  show (M.ofO (intsD ((ps ++ [-1]).map .int))).bind _ = _
  rw [ints_map]
  cases ps with
  | nil => rfl
  | cons a r =>
    show M.ok (PyData.int ((r ++ [-1]).foldl max a)) = _
    rw [List.foldl_append]
    show M.ok (PyData.int (max (r.foldl max a) (-1))) = _
    have h : -1 ≤ r.foldl max a := h
    rw [Int.max_eq_left h]
    rfl
def wD (rows : List Row) : D := .list (rows.map fun x => zD x.1)
theorem add_wD {a b : List Row} (h : a.length + b.length ≤ 100000) : binD .add (wD a) (wD b) = .ok (wD (a ++ b)) := by
  show mkLst _ = _
  rw [mkLst_ok (line256 (by rw [List.length_append, List.length_map, List.length_map]; omega)), ← List.map_append]
  rfl
theorem lrow_for {n : Nat} (hn : n ≤ 8) {F : List (List Int)} (hl : F.length ≤ 900) (s1 s2 : Sl) : ∀ (rows A : List Row), (∀ x ∈ rows, RowT n F x) → A.length + (nextF F rows).length ≤ 10000 → ∀ x4 x5 x6, ∃ y4 y5,
    forRun (.nm 4) (execs G__law_total (.cons (.asg 5 false (.bin .add (.blt .max (.cons (.bin .add (.var 4) (.lst (.cons (.neg (.int 1)) .nil))) .nil)) (.int 1))) (.cons (.asg 3 false (.bin .add (.var 3) (.lc (.bin .add (.var 4) (.lst (.cons (.var 6) .nil))) (.nm 6) (.rng2 (.var 5) (.blt .len (.cons (.var 0) .nil))) .no [(("_law_k" : Str), 6)]))) .nil))) (rows.map fun x => zD x.1) [.sh (fD F), s1, s2, .sh (wD A), x4, x5, x6] = .ok (.next [.sh (fD F), s1, s2, .sh (wD (A ++ nextF F rows)), y4, y5, x6])
  | [], A, _, _, x4, x5, x6 => ⟨x4, x5, by
    rw [show nextF F [] = [] from rfl, List.append_nil]
    rfl⟩
  | x :: rows, A, o, hA, x4, x5, x6 => by
    have ox := o x List.mem_cons_self
    have en : nextF F (x :: rows) = kidsF F x ++ nextF F rows := List.flatMap_cons
    rw [en, List.length_append] at hA
    obtain ⟨y4, y5, ih⟩ := lrow_for hn hl s1 s2 rows (A ++ kidsF F x) (fun y hy => o y (List.mem_cons_of_mem _ hy)) (by rw [List.length_append]; omega) (.sh (zD x.1)) (.sh (.int (topI x.1 + 1))) x6
    refine ⟨y4, y5, ?_⟩
    rw [List.append_assoc, ← en] at ih
    have h1 := ox.ok.lo
    have h2 := ox.ok.hi
    have h4 := ox.ok.len
    have a1 : binD .add (zD x.1) (.list [.int (-1)]) = .ok (zD (x.1 ++ [-1])) := add_zD (b := [-1]) (by rw [List.length_singleton]; omega)
    have a2 := max_row h1
    have a3 : mkLst [PyData.int (-1)] = .ok (.list [.int (-1)]) := mkLst_ok (by show 1 ≤ line; decide)
    have i1 : inR (topI x.1 + 1) = true := inR_ok (by omega)
    have i2 : inR (F.length : Int) = true := inR_ok (by omega)
    have c1 : lcRun (.nm 6) (ev G__law_total (.bin .add (.var 4) (.lst (.cons (.var 6) .nil)))) (evc G__law_total .no) [.sh (fD F), s1, s2, .sh (wD A), .sh (zD x.1), .sh (.int (topI x.1 + 1)), .un] (rng (topI x.1 + 1) ((F.length : Int) - (topI x.1 + 1)).toNat) = .ok ((kidsF F x).map fun x => zD x.1) := by
      rw [rng_map, lc_map (f := fun (i : Nat) => PyData.int (topI x.1 + 1 + (i : Int))) (p := fun _ => true) (g := fun (i : Nat) => zD (x.1 ++ [topI x.1 + 1 + (i : Int)])) fun i _ => ⟨_, rfl, rfl, fun _ => ?_⟩, filter_true]
      · unfold kidsF
        rw [List.map_map, List.range'_eq_map_range, List.map_map, show F.length - (topI x.1 + 1).toNat = ((F.length : Int) - (topI x.1 + 1)).toNat by omega]
        refine congrArg M.ok (List.map_congr_left fun i hi => ?_)
        show zD (x.1 ++ [topI x.1 + 1 + (i : Int)]) = zD (x.1 ++ [(((topI x.1 + 1).toNat + i : Nat) : Int)])
        rw [show (((topI x.1 + 1).toNat + i : Nat) : Int) = topI x.1 + 1 + (i : Int) by omega]
      · have e1 : mkLst [PyData.int (topI x.1 + 1 + (i : Int))] = .ok (.list [.int (topI x.1 + 1 + (i : Int))]) := mkLst_ok (by show 1 ≤ line; decide)
        have e2 : binD .add (zD x.1) (.list [.int (topI x.1 + 1 + (i : Int))]) = .ok (zD (x.1 ++ [topI x.1 + 1 + (i : Int)])) := add_zD (b := [topI x.1 + 1 + (i : Int)]) (by rw [List.length_singleton]; omega)
        simp only [DL.execs, DL.exec, DL.ev, DL.evs, DL.evo, DL.evc, DL.evi, DL.evB_bool, DL.getSh0, DL.getSh_s, DL.getB0, DL.getB0o, DL.getB_s, DL.M.bind_ok, DL.M.bind_ex, DL.M.ofO_some, DL.onNext, if_true, if_false, if_pos, Bool.false_eq_true, DL.put, DL.tyD, List.set_cons_zero, List.set_cons_succ, Bool.not_true, Bool.not_false, DL.forRun, DL.bindT, DL.setAll, DL.items_t, DL.items_l, DL.c_lti, DL.c_lei, DL.c_gti, DL.c_gei, DL.c_eqi, DL.c_nei, DL.wipe, List.map_cons, List.map_nil, DL.fl, reduceCtorEq, false_and, and_false, Nat.reduceEqDiff, DL.noX_ok, DL.items_lD, DL.items_fD, DL.items_tD, DL.mkTup0, DL.mkTup1i, DL.mkTup1t, DL.mkTup2t, DL.mkLst0, DL.mkLst1t, DL.sorted_lD, DL.tuple_lD, DL.len_lD, DL.len_fD, DL.len_tD, e1, e2]
    have c2 : mkLst ((kidsF F x).map fun x => zD x.1) = .ok (wD (kidsF F x)) := mkLst_ok (line256 (by rw [List.length_map]; omega))
    have c3 := add_wD (a := A) (b := kidsF F x) (by omega)
    simp only [DL.execs, DL.exec, DL.ev, DL.evs, DL.evo, DL.evc, DL.evi, DL.evB_bool, DL.getSh0, DL.getSh_s, DL.getB0, DL.getB0o, DL.getB_s, DL.M.bind_ok, DL.M.bind_ex, DL.M.ofO_some, DL.onNext, if_true, if_false, if_pos, Bool.false_eq_true, DL.put, DL.tyD, List.set_cons_zero, List.set_cons_succ, Bool.not_true, Bool.not_false, DL.bindT, DL.setAll, DL.items_t, DL.items_l, DL.c_lti, DL.c_lei, DL.c_gti, DL.c_gei, DL.c_eqi, DL.c_nei, DL.wipe, List.map_cons, List.map_nil, DL.fl, reduceCtorEq, false_and, and_false, Nat.reduceEqDiff, DL.noX_ok, DL.items_lD, DL.items_fD, DL.items_tD, DL.mkTup0, DL.mkTup1i, DL.mkTup1t, DL.mkTup2t, DL.mkLst0, DL.mkLst1t, DL.sorted_lD, DL.tuple_lD, DL.len_lD, DL.len_fD, DL.len_tD] at c1
    simp only [DL.execs, DL.exec, DL.ev, DL.evs, DL.evo, DL.evc, DL.evi, DL.evB_bool, DL.getSh0, DL.getSh_s, DL.getB0, DL.getB0o, DL.getB_s, DL.M.bind_ok, DL.M.bind_ex, DL.M.ofO_some, DL.onNext, if_true, if_false, if_pos, Bool.false_eq_true, DL.put, DL.tyD, List.set_cons_zero, List.set_cons_succ, Bool.not_true, Bool.not_false, DL.forRun, DL.bindT, DL.setAll, DL.items_t, DL.items_l, DL.c_lti, DL.c_lei, DL.c_gti, DL.c_gei, DL.c_eqi, DL.c_nei, DL.wipe, List.map_cons, List.map_nil, DL.fl, reduceCtorEq, false_and, and_false, Nat.reduceEqDiff, DL.noX_ok, DL.items_lD, DL.items_fD, DL.items_tD, DL.mkTup0, DL.mkTup1i, DL.mkTup1t, DL.mkTup2t, DL.mkLst0, DL.mkLst1t, DL.sorted_lD, DL.tuple_lD, DL.len_lD, DL.len_fD, DL.len_tD] at ih
    rw [List.map_cons]
    simp only [DL.execs, DL.exec, DL.ev, DL.evs, DL.evo, DL.evc, DL.evi, DL.evB_bool, DL.getSh0, DL.getSh_s, DL.getB0, DL.getB0o, DL.getB_s, DL.M.bind_ok, DL.M.bind_ex, DL.M.ofO_some, DL.onNext, if_true, if_false, if_pos, Bool.false_eq_true, DL.put, DL.tyD, List.set_cons_zero, List.set_cons_succ, Bool.not_true, Bool.not_false, DL.forRun, DL.bindT, DL.setAll, DL.items_t, DL.items_l, DL.c_lti, DL.c_lei, DL.c_gti, DL.c_gei, DL.c_eqi, DL.c_nei, DL.wipe, List.map_cons, List.map_nil, DL.fl, reduceCtorEq, false_and, and_false, Nat.reduceEqDiff, DL.noX_ok, DL.items_lD, DL.items_fD, DL.items_tD, DL.mkTup0, DL.mkTup1i, DL.mkTup1t, DL.mkTup2t, DL.mkLst0, DL.mkLst1t, DL.sorted_lD, DL.tuple_lD, DL.len_lD, DL.len_fD, DL.len_tD, a1, a2, a3, add_i, i1, i2, and_self, c1, c2, c3]
    exact ih
theorem pick_lc {F : List (List Int)} {ps : List Int} (h : ∀ k ∈ ps, 0 ≤ k ∧ k < F.length) (s1 s2 s3 s5 : Sl) : lcRun (.nm 6) (ev G__law_total (.idx (.var 0) (.var 6))) (evc G__law_total .no) [.sh (fD F), s1, s2, s3, .sh (zD ps), s5, .un] (ps.map .int) = .ok ((pick F ps).map tD) := by
  rw [lc_map (f := PyData.int) (p := fun _ => true) (g := fun k => tD ((F[k.toNat]?).getD [])) fun k hk => ⟨_, rfl, rfl, fun _ => ?_⟩, filter_true]
  · unfold pick
    rw [List.map_map]
    rfl
  · obtain ⟨h1, h2⟩ := h k hk
    have e := idx_fD (F := F) (i := k.toNat) (by omega)
    rw [show ((k.toNat : Nat) : Int) = k by omega] at e
    simp only [DL.execs, DL.exec, DL.ev, DL.evs, DL.evo, DL.evc, DL.evi, DL.evB_bool, DL.getSh0, DL.getSh_s, DL.getB0, DL.getB0o, DL.getB_s, DL.M.bind_ok, DL.M.bind_ex, DL.M.ofO_some, DL.onNext, if_true, if_false, if_pos, Bool.false_eq_true, DL.put, DL.tyD, List.set_cons_zero, List.set_cons_succ, Bool.not_true, Bool.not_false, DL.forRun, DL.bindT, DL.setAll, DL.items_t, DL.items_l, DL.c_lti, DL.c_lei, DL.c_gti, DL.c_gei, DL.c_eqi, DL.c_nei, DL.wipe, List.map_cons, List.map_nil, DL.fl, reduceCtorEq, false_and, and_false, Nat.reduceEqDiff, DL.noX_ok, DL.items_lD, DL.items_fD, DL.items_tD, DL.mkTup0, DL.mkTup1i, DL.mkTup1t, DL.mkTup2t, DL.mkLst0, DL.mkLst1t, DL.sorted_lD, DL.tuple_lD, DL.len_lD, DL.len_fD, DL.len_tD, e]
theorem good_pick {n : Nat} {F : List (List Int)} (hF : ∀ a ∈ F, goodS (n : Int) (-1) a = true) (ps : List Int) : ∀ a ∈ pick F ps, goodS (n : Int) (-1) a = true := fun a ha => by
  unfold pick at ha
  obtain ⟨k, _, rfl⟩ := List.mem_map.mp ha
  cases e : F[k.toNat]? with
  | none => rfl
  | some b => exact hF b (List.mem_of_getElem? e)
theorem lfind_for {n : Nat} (hn : n ≤ 8) {F : List (List Int)} (hF : ∀ a ∈ F, goodS (n : Int) (-1) a = true) (s1 s2 s3 s5 x6 : Sl) (hl : F.length ≤ 900) : ∀ (rows : List Row), (∀ x ∈ rows, RowT n F x) → ∀ x4, ∃ y4, forRun (.nm 4) (execs G__law_total (.cons (.ifs (.cmp .eq (.call ("_law_total" : Str) (.cons (.lc (.idx (.var 0) (.var 6)) (.nm 6) (.seq (.var 4)) .no [(("_law_k" : Str), 6)]) .nil)) (.tup .nil)) (.cons (.ret (.var 4)) .nil) .nil) .nil)) (rows.map fun x => zD x.1) [.sh (fD F), s1, s2, s3, x4, s5, x6] =
      .ok (match rows.find? fun x => decide (x.2 = []) with | some x => .ret (zD x.1) | none => .next [.sh (fD F), s1, s2, s3, y4, s5, x6])
  | [], _, x4 => ⟨x4, rfl⟩
  | x :: rows, o, x4 => by
    have ox := o x List.mem_cons_self
    obtain ⟨y4, ih⟩ := lfind_for hn hF s1 s2 s3 s5 x6 hl rows (fun y hy => o y (List.mem_cons_of_mem _ hy)) (.sh (zD x.1))
    refine ⟨y4, ?_⟩
    have c1 := pick_lc ox.rg s1 s2 s3 s5
    have hp : (pick F x.1).length ≤ 1000 := by
      unfold pick
      rw [List.length_map]
      have := ox.ok.len
      have := ox.ok.hi
      omega
    have c2 : mkLst ((pick F x.1).map tD) = .ok (lD (pick F x.1)) := mkLst_lD (line256 (by omega))
    have c3 := m_total_ok hn (good_pick hF x.1)
    rw [← ox.tot] at c3
    have c4 := c_eqt x.2 []
    have iz : items (zD x.1) = some (x.1.map .int) := rfl
    rw [List.map_cons]
    simp only [DL.execs, DL.exec, DL.ev, DL.evs, DL.evo, DL.evc, DL.evi, DL.evB_bool, DL.getSh0, DL.getSh_s, DL.getB0, DL.getB0o, DL.getB_s, DL.M.bind_ok, DL.M.bind_ex, DL.M.ofO_some, DL.onNext, if_true, if_false, if_pos, Bool.false_eq_true, DL.put, DL.tyD, List.set_cons_zero, List.set_cons_succ, Bool.not_true, Bool.not_false, DL.bindT, DL.setAll, DL.items_t, DL.items_l, DL.c_lti, DL.c_lei, DL.c_gti, DL.c_gei, DL.c_eqi, DL.c_nei, DL.wipe, List.map_cons, List.map_nil, DL.fl, reduceCtorEq, false_and, and_false, Nat.reduceEqDiff, DL.noX_ok, DL.items_lD, DL.items_fD, DL.items_tD, DL.mkTup0, DL.mkTup1i, DL.mkTup1t, DL.mkTup2t, DL.mkLst0, DL.mkLst1t, DL.sorted_lD, DL.tuple_lD, DL.len_lD, DL.len_fD, DL.len_tD] at c1
    simp only [DL.execs, DL.exec, DL.ev, DL.evs, DL.evo, DL.evc, DL.evi, DL.evB_bool, DL.getSh0, DL.getSh_s, DL.getB0, DL.getB0o, DL.getB_s, DL.M.bind_ok, DL.M.bind_ex, DL.M.ofO_some, DL.onNext, if_true, if_false, if_pos, Bool.false_eq_true, DL.put, DL.tyD, List.set_cons_zero, List.set_cons_succ, Bool.not_true, Bool.not_false, DL.forRun, DL.bindT, DL.setAll, DL.items_t, DL.items_l, DL.c_lti, DL.c_lei, DL.c_gti, DL.c_gei, DL.c_eqi, DL.c_nei, DL.wipe, List.map_cons, List.map_nil, DL.fl, reduceCtorEq, false_and, and_false, Nat.reduceEqDiff, DL.noX_ok, DL.items_lD, DL.items_fD, DL.items_tD, DL.mkTup0, DL.mkTup1i, DL.mkTup1t, DL.mkTup2t, DL.mkLst0, DL.mkLst1t, DL.sorted_lD, DL.tuple_lD, DL.len_lD, DL.len_fD, DL.len_tD] at ih
    by_cases hz : x.2 = []
    · rw [List.find?_cons_of_pos (by simpa using hz)]
      rw [hz] at c3 c4
      simp only [DL.execs, DL.exec, DL.ev, DL.evs, DL.evo, DL.evc, DL.evi, DL.evB_bool, DL.getSh0, DL.getSh_s, DL.getB0, DL.getB0o, DL.getB_s, DL.M.bind_ok, DL.M.bind_ex, DL.M.ofO_some, DL.onNext, if_true, if_false, if_pos, Bool.false_eq_true, DL.put, DL.tyD, List.set_cons_zero, List.set_cons_succ, Bool.not_true, Bool.not_false, DL.forRun, DL.bindT, DL.setAll, DL.items_t, DL.items_l, DL.c_lti, DL.c_lei, DL.c_gti, DL.c_gei, DL.c_eqi, DL.c_nei, DL.wipe, List.map_cons, List.map_nil, DL.fl, reduceCtorEq, false_and, and_false, Nat.reduceEqDiff, DL.noX_ok, DL.items_lD, DL.items_fD, DL.items_tD, DL.mkTup0, DL.mkTup1i, DL.mkTup1t, DL.mkTup2t, DL.mkLst0, DL.mkLst1t, DL.sorted_lD, DL.tuple_lD, DL.len_lD, DL.len_fD, DL.len_tD, iz, c1, c2, g__law_first_none__law_total, c3, c4, hz, decide_true]
    · rw [List.find?_cons_of_neg (by simpa using hz)]
      simp only [DL.execs, DL.exec, DL.ev, DL.evs, DL.evo, DL.evc, DL.evi, DL.evB_bool, DL.getSh0, DL.getSh_s, DL.getB0, DL.getB0o, DL.getB_s, DL.M.bind_ok, DL.M.bind_ex, DL.M.ofO_some, DL.onNext, if_true, if_false, if_pos, Bool.false_eq_true, DL.put, DL.tyD, List.set_cons_zero, List.set_cons_succ, Bool.not_true, Bool.not_false, DL.forRun, DL.bindT, DL.setAll, DL.items_t, DL.items_l, DL.c_lti, DL.c_lei, DL.c_gti, DL.c_gei, DL.c_eqi, DL.c_nei, DL.wipe, List.map_cons, List.map_nil, DL.fl, reduceCtorEq, false_and, and_false, Nat.reduceEqDiff, DL.noX_ok, DL.items_lD, DL.items_fD, DL.items_tD, DL.mkTup0, DL.mkTup1i, DL.mkTup1t, DL.mkTup2t, DL.mkLst0, DL.mkLst1t, DL.sorted_lD, DL.tuple_lD, DL.len_lD, DL.len_fD, DL.len_tD, iz, c1, c2, g__law_first_none__law_total, c3, c4, hz, decide_false]
      exact ih
def lawN (F : List (List Int)) : Nat → List Row → Option (List Int)
  | 0, _ => none
  | s + 1, rows => match (nextF F rows).find? fun x => decide (x.2 = []) with
    | some x => some x.1
    | none => lawN F s (nextF F rows)
theorem lawN_nil (F : List (List Int)) : ∀ s, lawN F s [] = none
  | 0 => rfl
  | s + 1 => lawN_nil F s
theorem lawN_none {n : Nat} {F : List (List Int)} (hF : ∀ a ∈ F, goodS (n : Int) (-1) a = true) : ∀ (s f : Nat) (rows : List Row), (∀ x ∈ rows, RowOk n F x) → (∀ x ∈ rows, (F.length : Int) ≤ topI x.1 + 1 + s) → s < f → lawN F s rows = noneF F f rows
  | _, 0, _, _, _, h => by omega
  | 0, f + 1, rows, o, hk, _ => by
    rw [noneF, lawN]
    split
    · rfl
    · have e : nextF F rows = [] := List.flatMap_eq_nil_iff.mpr fun x hx => by
        have := hk x hx
        have h1 := (o x hx).lo
        unfold kidsF
        rw [show F.length - (topI x.1 + 1).toNat = 0 by omega]
        rfl
      rw [e]
      cases f <;> rfl
  | s + 1, f + 1, rows, o, hk, h => by
    by_cases e : rows = []
    · subst e
      show lawN F s [] = none
      exact lawN_nil F s
    · rw [noneF, lawN, if_neg e]
      have no : ∀ y ∈ nextF F rows, RowOk n F y := fun y hy => by
        obtain ⟨x, hx, hy⟩ := List.mem_flatMap.mp hy
        exact kids_ok hF (o x hx) y hy
      have nk : ∀ y ∈ nextF F rows, (F.length : Int) ≤ topI y.1 + 1 + s := fun y hy => by
        obtain ⟨x, hx, hy⟩ := List.mem_flatMap.mp hy
        have h1 := hk x hx
        have h2 := (o x hx).lo
        unfold kidsF at hy
        obtain ⟨i, hi, rfl⟩ := List.mem_map.mp hy
        rw [List.mem_range'_1] at hi
        have ht : topI (x.1 ++ [(i : Int)]) = (i : Int) := topI_snoc (by omega)
        show (F.length : Int) ≤ topI (x.1 ++ [(i : Int)]) + 1 + s
        rw [ht]
        omega
      rw [lawN_none hF s f (nextF F rows) no nk (by omega)]
      try (cases (nextF F rows).find? (fun x => decide (x.2 = [])) <;> rfl)
theorem llvl_for {n : Nat} (hn : n ≤ 8) {F : List (List Int)} (hF : ∀ a ∈ F, goodS (n : Int) (-1) a = true) (hl : F.length ≤ 900) : ∀ (s : Nat) (lo : Int) (rows : List Row), (∀ x ∈ rows, RowT n F x) → wtS F.length rows ≤ 5000 → ∀ x2 x3 x4 x5 x6, ∃ r,
    forRun (.nm 2) (execs G__law_total (.cons (.asg 3 false (.lst .nil)) (.cons (.for_ (.nm 4) (.seq (.var 1)) (.cons (.asg 5 false (.bin .add (.blt .max (.cons (.bin .add (.var 4) (.lst (.cons (.neg (.int 1)) .nil))) .nil)) (.int 1))) (.cons (.asg 3 false (.bin .add (.var 3) (.lc (.bin .add (.var 4) (.lst (.cons (.var 6) .nil))) (.nm 6) (.rng2 (.var 5) (.blt .len (.cons (.var 0) .nil))) .no [(("_law_k" : Str), 6)]))) .nil))) (.cons (.for_ (.nm 4) (.seq (.var 3)) (.cons (.ifs (.cmp .eq (.call ("_law_total" : Str) (.cons (.lc (.idx (.var 0) (.var 6)) (.nm 6) (.seq (.var 4)) .no [(("_law_k" : Str), 6)]) .nil)) (.tup .nil)) (.cons (.ret (.var 4)) .nil) .nil) .nil)) (.cons (.asg 1 false (.var 3)) .nil))))) (rng lo s) [.sh (fD F), .sh (wD rows), x2, x3, x4, x5, x6] = .ok (match lawN F s rows with | some ps => .ret (zD ps) | none => .next r)
  | 0, lo, rows, _, _, x2, x3, x4, x5, x6 => ⟨_, rfl⟩
  | s + 1, lo, rows, o, hw, x2, x3, x4, x5, x6 => by
    have no := next_t hF o
    have hnw := next_wt rows (fun x hx => (o x hx).ok)
    have hnl := len_wt F.length (nextF F rows)
    obtain ⟨y4, y5, h1⟩ := lrow_for hn hl (.sh (wD rows)) (.sh (.int lo)) rows [] o (by rw [List.length_nil]; omega) x4 x5 x6
    rw [List.nil_append] at h1
    obtain ⟨z4, h2⟩ := lfind_for hn hF (.sh (wD rows)) (.sh (.int lo)) (.sh (wD (nextF F rows))) y5 x6 hl (nextF F rows) no y4
    have e1 : exec G__law_total (.asg 3 false (.lst .nil)) [.sh (fD F), .sh (wD rows), .sh (.int lo), x3, x4, x5, x6] = .ok (.next [.sh (fD F), .sh (wD rows), .sh (.int lo), .sh (wD []), x4, x5, x6]) := rfl
    have e2 : exec G__law_total (.for_ (.nm 4) (.seq (.var 1)) (.cons (.asg 5 false (.bin .add (.blt .max (.cons (.bin .add (.var 4) (.lst (.cons (.neg (.int 1)) .nil))) .nil)) (.int 1))) (.cons (.asg 3 false (.bin .add (.var 3) (.lc (.bin .add (.var 4) (.lst (.cons (.var 6) .nil))) (.nm 6) (.rng2 (.var 5) (.blt .len (.cons (.var 0) .nil))) .no [(("_law_k" : Str), 6)]))) .nil))) [.sh (fD F), .sh (wD rows), .sh (.int lo), .sh (wD []), x4, x5, x6] = .ok (.next [.sh (fD F), .sh (wD rows), .sh (.int lo), .sh (wD (nextF F rows)), y4, y5, x6]) := h1
    have e3 : exec G__law_total (.for_ (.nm 4) (.seq (.var 3)) (.cons (.ifs (.cmp .eq (.call ("_law_total" : Str) (.cons (.lc (.idx (.var 0) (.var 6)) (.nm 6) (.seq (.var 4)) .no [(("_law_k" : Str), 6)]) .nil)) (.tup .nil)) (.cons (.ret (.var 4)) .nil) .nil) .nil)) [.sh (fD F), .sh (wD rows), .sh (.int lo), .sh (wD (nextF F rows)), y4, y5, x6] = .ok (match (nextF F rows).find? (fun x => decide (x.2 = [])) with | some x => .ret (zD x.1) | none => .next [.sh (fD F), .sh (wD rows), .sh (.int lo), .sh (wD (nextF F rows)), z4, y5, x6]) := h2
    rw [lawN]
    cases hfd : (nextF F rows).find? (fun x => decide (x.2 = [])) with
    | some x =>
      rw [hfd] at e3
      have hb : execs G__law_total (.cons (.asg 3 false (.lst .nil)) (.cons (.for_ (.nm 4) (.seq (.var 1)) (.cons (.asg 5 false (.bin .add (.blt .max (.cons (.bin .add (.var 4) (.lst (.cons (.neg (.int 1)) .nil))) .nil)) (.int 1))) (.cons (.asg 3 false (.bin .add (.var 3) (.lc (.bin .add (.var 4) (.lst (.cons (.var 6) .nil))) (.nm 6) (.rng2 (.var 5) (.blt .len (.cons (.var 0) .nil))) .no [(("_law_k" : Str), 6)]))) .nil))) (.cons (.for_ (.nm 4) (.seq (.var 3)) (.cons (.ifs (.cmp .eq (.call ("_law_total" : Str) (.cons (.lc (.idx (.var 0) (.var 6)) (.nm 6) (.seq (.var 4)) .no [(("_law_k" : Str), 6)]) .nil)) (.tup .nil)) (.cons (.ret (.var 4)) .nil) .nil) .nil)) (.cons (.asg 1 false (.var 3)) .nil)))) [.sh (fD F), .sh (wD rows), .sh (.int lo), x3, x4, x5, x6] = .ok (.ret (zD x.1)) := by
        rw [ex_cons e1, ex_cons e2]
        show onNext (exec _ _ _) _ = _
        rw [e3]
        rfl
      refine ⟨[], ?_⟩
      show ((M.ofO (some ([.sh (fD F), .sh (wD rows), .sh (.int lo), x3, x4, x5, x6] : Rho))).bind fun r1 => (execs G__law_total (.cons (.asg 3 false (.lst .nil)) (.cons (.for_ (.nm 4) (.seq (.var 1)) (.cons (.asg 5 false (.bin .add (.blt .max (.cons (.bin .add (.var 4) (.lst (.cons (.neg (.int 1)) .nil))) .nil)) (.int 1))) (.cons (.asg 3 false (.bin .add (.var 3) (.lc (.bin .add (.var 4) (.lst (.cons (.var 6) .nil))) (.nm 6) (.rng2 (.var 5) (.blt .len (.cons (.var 0) .nil))) .no [(("_law_k" : Str), 6)]))) .nil))) (.cons (.for_ (.nm 4) (.seq (.var 3)) (.cons (.ifs (.cmp .eq (.call ("_law_total" : Str) (.cons (.lc (.idx (.var 0) (.var 6)) (.nm 6) (.seq (.var 4)) .no [(("_law_k" : Str), 6)]) .nil)) (.tup .nil)) (.cons (.ret (.var 4)) .nil) .nil) .nil)) (.cons (.asg 1 false (.var 3)) .nil)))) r1).bind fun f => match f with
        | .next r2 => forRun (.nm 2) (execs G__law_total (.cons (.asg 3 false (.lst .nil)) (.cons (.for_ (.nm 4) (.seq (.var 1)) (.cons (.asg 5 false (.bin .add (.blt .max (.cons (.bin .add (.var 4) (.lst (.cons (.neg (.int 1)) .nil))) .nil)) (.int 1))) (.cons (.asg 3 false (.bin .add (.var 3) (.lc (.bin .add (.var 4) (.lst (.cons (.var 6) .nil))) (.nm 6) (.rng2 (.var 5) (.blt .len (.cons (.var 0) .nil))) .no [(("_law_k" : Str), 6)]))) .nil))) (.cons (.for_ (.nm 4) (.seq (.var 3)) (.cons (.ifs (.cmp .eq (.call ("_law_total" : Str) (.cons (.lc (.idx (.var 0) (.var 6)) (.nm 6) (.seq (.var 4)) .no [(("_law_k" : Str), 6)]) .nil)) (.tup .nil)) (.cons (.ret (.var 4)) .nil) .nil) .nil)) (.cons (.asg 1 false (.var 3)) .nil))))) (rng (lo + 1) s) r2
        | .cont r2 => forRun (.nm 2) (execs G__law_total (.cons (.asg 3 false (.lst .nil)) (.cons (.for_ (.nm 4) (.seq (.var 1)) (.cons (.asg 5 false (.bin .add (.blt .max (.cons (.bin .add (.var 4) (.lst (.cons (.neg (.int 1)) .nil))) .nil)) (.int 1))) (.cons (.asg 3 false (.bin .add (.var 3) (.lc (.bin .add (.var 4) (.lst (.cons (.var 6) .nil))) (.nm 6) (.rng2 (.var 5) (.blt .len (.cons (.var 0) .nil))) .no [(("_law_k" : Str), 6)]))) .nil))) (.cons (.for_ (.nm 4) (.seq (.var 3)) (.cons (.ifs (.cmp .eq (.call ("_law_total" : Str) (.cons (.lc (.idx (.var 0) (.var 6)) (.nm 6) (.seq (.var 4)) .no [(("_law_k" : Str), 6)]) .nil)) (.tup .nil)) (.cons (.ret (.var 4)) .nil) .nil) .nil)) (.cons (.asg 1 false (.var 3)) .nil))))) (rng (lo + 1) s) r2
        | .brk r2 => .ok (.next r2)
        | .ret d => .ok (.ret d)) = _
      rw [M.ofO_some, M.bind_ok, hb]
      rfl
    | none =>
      rw [hfd] at e3
      have hb : execs G__law_total (.cons (.asg 3 false (.lst .nil)) (.cons (.for_ (.nm 4) (.seq (.var 1)) (.cons (.asg 5 false (.bin .add (.blt .max (.cons (.bin .add (.var 4) (.lst (.cons (.neg (.int 1)) .nil))) .nil)) (.int 1))) (.cons (.asg 3 false (.bin .add (.var 3) (.lc (.bin .add (.var 4) (.lst (.cons (.var 6) .nil))) (.nm 6) (.rng2 (.var 5) (.blt .len (.cons (.var 0) .nil))) .no [(("_law_k" : Str), 6)]))) .nil))) (.cons (.for_ (.nm 4) (.seq (.var 3)) (.cons (.ifs (.cmp .eq (.call ("_law_total" : Str) (.cons (.lc (.idx (.var 0) (.var 6)) (.nm 6) (.seq (.var 4)) .no [(("_law_k" : Str), 6)]) .nil)) (.tup .nil)) (.cons (.ret (.var 4)) .nil) .nil) .nil)) (.cons (.asg 1 false (.var 3)) .nil)))) [.sh (fD F), .sh (wD rows), .sh (.int lo), x3, x4, x5, x6] = .ok (.next [.sh (fD F), .sh (wD (nextF F rows)), .sh (.int lo), .sh (wD (nextF F rows)), z4, y5, x6]) := by
        rw [ex_cons e1, ex_cons e2, ex_cons e3]
        rfl
      obtain ⟨r, ih⟩ := llvl_for hn hF hl s (lo + 1) (nextF F rows) no (by omega) (.sh (.int lo)) (.sh (wD (nextF F rows))) z4 y5 x6
      refine ⟨r, ?_⟩
      show ((M.ofO (some ([.sh (fD F), .sh (wD rows), .sh (.int lo), x3, x4, x5, x6] : Rho))).bind fun r1 => (execs G__law_total (.cons (.asg 3 false (.lst .nil)) (.cons (.for_ (.nm 4) (.seq (.var 1)) (.cons (.asg 5 false (.bin .add (.blt .max (.cons (.bin .add (.var 4) (.lst (.cons (.neg (.int 1)) .nil))) .nil)) (.int 1))) (.cons (.asg 3 false (.bin .add (.var 3) (.lc (.bin .add (.var 4) (.lst (.cons (.var 6) .nil))) (.nm 6) (.rng2 (.var 5) (.blt .len (.cons (.var 0) .nil))) .no [(("_law_k" : Str), 6)]))) .nil))) (.cons (.for_ (.nm 4) (.seq (.var 3)) (.cons (.ifs (.cmp .eq (.call ("_law_total" : Str) (.cons (.lc (.idx (.var 0) (.var 6)) (.nm 6) (.seq (.var 4)) .no [(("_law_k" : Str), 6)]) .nil)) (.tup .nil)) (.cons (.ret (.var 4)) .nil) .nil) .nil)) (.cons (.asg 1 false (.var 3)) .nil)))) r1).bind fun f => match f with
        | .next r2 => forRun (.nm 2) (execs G__law_total (.cons (.asg 3 false (.lst .nil)) (.cons (.for_ (.nm 4) (.seq (.var 1)) (.cons (.asg 5 false (.bin .add (.blt .max (.cons (.bin .add (.var 4) (.lst (.cons (.neg (.int 1)) .nil))) .nil)) (.int 1))) (.cons (.asg 3 false (.bin .add (.var 3) (.lc (.bin .add (.var 4) (.lst (.cons (.var 6) .nil))) (.nm 6) (.rng2 (.var 5) (.blt .len (.cons (.var 0) .nil))) .no [(("_law_k" : Str), 6)]))) .nil))) (.cons (.for_ (.nm 4) (.seq (.var 3)) (.cons (.ifs (.cmp .eq (.call ("_law_total" : Str) (.cons (.lc (.idx (.var 0) (.var 6)) (.nm 6) (.seq (.var 4)) .no [(("_law_k" : Str), 6)]) .nil)) (.tup .nil)) (.cons (.ret (.var 4)) .nil) .nil) .nil)) (.cons (.asg 1 false (.var 3)) .nil))))) (rng (lo + 1) s) r2
        | .cont r2 => forRun (.nm 2) (execs G__law_total (.cons (.asg 3 false (.lst .nil)) (.cons (.for_ (.nm 4) (.seq (.var 1)) (.cons (.asg 5 false (.bin .add (.blt .max (.cons (.bin .add (.var 4) (.lst (.cons (.neg (.int 1)) .nil))) .nil)) (.int 1))) (.cons (.asg 3 false (.bin .add (.var 3) (.lc (.bin .add (.var 4) (.lst (.cons (.var 6) .nil))) (.nm 6) (.rng2 (.var 5) (.blt .len (.cons (.var 0) .nil))) .no [(("_law_k" : Str), 6)]))) .nil))) (.cons (.for_ (.nm 4) (.seq (.var 3)) (.cons (.ifs (.cmp .eq (.call ("_law_total" : Str) (.cons (.lc (.idx (.var 0) (.var 6)) (.nm 6) (.seq (.var 4)) .no [(("_law_k" : Str), 6)]) .nil)) (.tup .nil)) (.cons (.ret (.var 4)) .nil) .nil) .nil)) (.cons (.asg 1 false (.var 3)) .nil))))) (rng (lo + 1) s) r2
        | .brk r2 => .ok (.next r2)
        | .ret d => .ok (.ret d)) = _
      rw [M.ofO_some, M.bind_ok, hb]
      exact ih
def noneD (F : List (List Int)) : D := match noneF F 5000 [([], [])] with | some ps => zD ps | none => .none
theorem m_first_none_ok {n : Nat} (hn : n ≤ 8) {F : List (List Int)} (hF : ∀ a ∈ F, goodS (n : Int) (-1) a = true) (hl : F.length ≤ 12) : m__law_first_none [fD F] = .ok (noneD F) := by
  have hw : wtS F.length [(([] : List Int), ([] : List Int))] ≤ 4096 := by
    show (2 ^ (F.length - 0) + 0 : Nat) ≤ 4096
    have : (2 : Nat) ^ F.length ≤ 2 ^ 12 := Nat.pow_le_pow_right (by omega) hl
    rw [Nat.sub_zero]
    omega
  have ro : ∀ x ∈ [(([] : List Int), ([] : List Int))], RowT n F x := fun x hx => by
    refine ⟨rows0 x hx, ?_, ?_⟩
    · rw [List.mem_singleton.mp hx]; intro k hk; cases hk
    · rw [List.mem_singleton.mp hx]; rfl
  obtain ⟨r, h⟩ := llvl_for hn hF (by omega) F.length 0 [([], [])] ro (by omega) .un .un .un .un .un
  rw [lawN_none hF F.length 5000 _ rows0 (fun x hx => by rw [List.mem_singleton.mp hx]; show (F.length : Int) ≤ -1 + 1 + F.length; omega) (by omega)] at h
  have e1 : exec G__law_total (.asg 1 false (.lst (.cons (.lst .nil) .nil))) [.sh (fD F), .un, .un, .un, .un, .un, .un] = .ok (.next [.sh (fD F), .sh (wD [([], [])]), .un, .un, .un, .un, .un]) := rfl
  have i2 : inR (F.length : Int) = true := inR_ok (by omega)
  have e2 : exec G__law_total (.for_ (.nm 2) (.rng1 (.blt .len (.cons (.var 0) .nil))) (.cons (.asg 3 false (.lst .nil)) (.cons (.for_ (.nm 4) (.seq (.var 1)) (.cons (.asg 5 false (.bin .add (.blt .max (.cons (.bin .add (.var 4) (.lst (.cons (.neg (.int 1)) .nil))) .nil)) (.int 1))) (.cons (.asg 3 false (.bin .add (.var 3) (.lc (.bin .add (.var 4) (.lst (.cons (.var 6) .nil))) (.nm 6) (.rng2 (.var 5) (.blt .len (.cons (.var 0) .nil))) .no [(("_law_k" : Str), 6)]))) .nil))) (.cons (.for_ (.nm 4) (.seq (.var 3)) (.cons (.ifs (.cmp .eq (.call ("_law_total" : Str) (.cons (.lc (.idx (.var 0) (.var 6)) (.nm 6) (.seq (.var 4)) .no [(("_law_k" : Str), 6)]) .nil)) (.tup .nil)) (.cons (.ret (.var 4)) .nil) .nil) .nil)) (.cons (.asg 1 false (.var 3)) .nil))))) [.sh (fD F), .sh (wD [([], [])]), .un, .un, .un, .un, .un] = .ok (match noneF F 5000 [([], [])] with | some ps => .ret (zD ps) | none => .next r) := by
    show (evi _ _ _).bind _ = _
    have : evi G__law_total (.rng1 (.blt .len (.cons (.var 0) .nil))) [.sh (fD F), .sh (wD [([], [])]), .un, .un, .un, .un, .un] = .ok (rng 0 F.length) := by
      simp only [DL.execs, DL.exec, DL.ev, DL.evs, DL.evo, DL.evc, DL.evi, DL.evB_bool, DL.getSh0, DL.getSh_s, DL.getB0, DL.getB0o, DL.getB_s, DL.M.bind_ok, DL.M.bind_ex, DL.M.ofO_some, DL.onNext, if_true, if_false, if_pos, Bool.false_eq_true, DL.put, DL.tyD, List.set_cons_zero, List.set_cons_succ, Bool.not_true, Bool.not_false, DL.forRun, DL.bindT, DL.setAll, DL.items_t, DL.items_l, DL.c_lti, DL.c_lei, DL.c_gti, DL.c_gei, DL.c_eqi, DL.c_nei, DL.wipe, List.map_cons, List.map_nil, DL.fl, reduceCtorEq, false_and, and_false, Nat.reduceEqDiff, DL.noX_ok, DL.items_lD, DL.items_fD, DL.items_tD, DL.mkTup0, DL.mkTup1i, DL.mkTup1t, DL.mkTup2t, DL.mkLst0, DL.mkLst1t, DL.sorted_lD, DL.tuple_lD, DL.len_lD, DL.len_fD, DL.len_tD, i2, Int.toNat_natCast]
    rw [this]
    exact h
  unfold noneD
  cases hN : noneF F 5000 [([], [])] with
  | some ps =>
    rw [hN] at e2
    refine run_ret [.sh (fD F), .un, .un, .un, .un, .un, .un] rfl rfl ?_
    show execs G__law_total (.cons (.asg 1 false (.lst (.cons (.lst .nil) .nil))) (.cons (.for_ (.nm 2) (.rng1 (.blt .len (.cons (.var 0) .nil))) (.cons (.asg 3 false (.lst .nil)) (.cons (.for_ (.nm 4) (.seq (.var 1)) (.cons (.asg 5 false (.bin .add (.blt .max (.cons (.bin .add (.var 4) (.lst (.cons (.neg (.int 1)) .nil))) .nil)) (.int 1))) (.cons (.asg 3 false (.bin .add (.var 3) (.lc (.bin .add (.var 4) (.lst (.cons (.var 6) .nil))) (.nm 6) (.rng2 (.var 5) (.blt .len (.cons (.var 0) .nil))) .no [(("_law_k" : Str), 6)]))) .nil))) (.cons (.for_ (.nm 4) (.seq (.var 3)) (.cons (.ifs (.cmp .eq (.call ("_law_total" : Str) (.cons (.lc (.idx (.var 0) (.var 6)) (.nm 6) (.seq (.var 4)) .no [(("_law_k" : Str), 6)]) .nil)) (.tup .nil)) (.cons (.ret (.var 4)) .nil) .nil) .nil)) (.cons (.asg 1 false (.var 3)) .nil))))) (.cons (.ret .none) .nil))) _ = _
    rw [ex_cons e1]
    show onNext (exec _ _ _) _ = _
    rw [e2]
    rfl
  | none =>
    rw [hN] at e2
    refine run_ret [.sh (fD F), .un, .un, .un, .un, .un, .un] rfl rfl ?_
    show execs G__law_total (.cons (.asg 1 false (.lst (.cons (.lst .nil) .nil))) (.cons (.for_ (.nm 2) (.rng1 (.blt .len (.cons (.var 0) .nil))) (.cons (.asg 3 false (.lst .nil)) (.cons (.for_ (.nm 4) (.seq (.var 1)) (.cons (.asg 5 false (.bin .add (.blt .max (.cons (.bin .add (.var 4) (.lst (.cons (.neg (.int 1)) .nil))) .nil)) (.int 1))) (.cons (.asg 3 false (.bin .add (.var 3) (.lc (.bin .add (.var 4) (.lst (.cons (.var 6) .nil))) (.nm 6) (.rng2 (.var 5) (.blt .len (.cons (.var 0) .nil))) .no [(("_law_k" : Str), 6)]))) .nil))) (.cons (.for_ (.nm 4) (.seq (.var 3)) (.cons (.ifs (.cmp .eq (.call ("_law_total" : Str) (.cons (.lc (.idx (.var 0) (.var 6)) (.nm 6) (.seq (.var 4)) .no [(("_law_k" : Str), 6)]) .nil)) (.tup .nil)) (.cons (.ret (.var 4)) .nil) .nil) .nil)) (.cons (.asg 1 false (.var 3)) .nil))))) (.cons (.ret .none) .nil))) _ = _
    rw [ex_cons e1, ex_cons e2]
    rfl

end LW

namespace LW
open DL
open PySem (Str PyData)
/-! k66: the law's own def -/
theorem same_none (n : Nat) : rs (n + 1) [.none, .none] = .ok (.bool true) := by
  show run _ f__law_same _ = _
  refine run_ret [.sh .none, .sh .none, .un, .un] rfl rfl ?_
  have c1 : cmpD .isN (.none : D) .none = .ok (.bool true) := rfl
  simp only [f__law_same, DL.execs, DL.exec, DL.ev, DL.evs, DL.evo, DL.evc, DL.evi, DL.evB_bool, DL.getSh0, DL.getSh_s, DL.getB0, DL.getB0o, DL.getB_s, DL.M.bind_ok, DL.M.bind_ex, DL.M.ofO_some, DL.onNext, if_true, if_false, if_pos, Bool.false_eq_true, DL.put, DL.tyD, List.set_cons_zero, List.set_cons_succ, Bool.not_true, Bool.not_false, DL.forRun, DL.bindT, DL.setAll, DL.items_t, DL.items_l, DL.c_lti, DL.c_lei, DL.c_gti, DL.c_gei, DL.c_eqi, DL.c_nei, DL.wipe, List.map_cons, List.map_nil, DL.fl, reduceCtorEq, false_and, and_false, Nat.reduceEqDiff, DL.noX_ok, DL.items_lD, DL.items_fD, DL.items_tD, DL.mkTup0, DL.mkTup1i, DL.mkTup1t, DL.mkTup2t, DL.mkLst0, DL.mkLst1t, DL.sorted_lD, DL.tuple_lD, DL.len_lD, DL.len_fD, DL.len_tD, c1]
theorem law_same_nones : m__law_same [.none, .none] = .ok (.bool true) := same_none 9
theorem same_noneD (F : List (List Int)) : m__law_same [noneD F, noneD F] = .ok (.bool true) := by
  unfold noneD
  cases noneF F 5000 [([], [])] with
  | some ps => exact law_same_ints ps
  | none => exact law_same_nones
theorem frD_noneD (F : List (List Int)) : frD (noneD F) = .ok (noneD F) := by
  unfold noneD
  cases noneF F 5000 [([], [])] with
  | some ps =>
    refine if_pos (List.all_eq_true.mpr fun d hd => ?_)
    obtain ⟨i, _, rfl⟩ := List.mem_map.mp hd
    rfl
  | none => rfl
theorem noLs_ints : ∀ k : List Int, noLs (k.map .int) = true
  | [] => rfl
  | i :: k => by
    show (true && noLs (k.map .int)) = true
    rw [noLs_ints k]; rfl
theorem noLs_tDs : ∀ F : List (List Int), noLs (F.map tD) = true
  | [] => rfl
  | k :: F => by
    show (noLs (k.map .int) && noLs (F.map tD)) = true
    rw [noLs_ints k, noLs_tDs F]; rfl
theorem noLs_nf (n : Int) (F : List (List Int)) : noLs [.int n, fD F] = true := by
  show (true && (noLs (F.map tD) && true)) = true
  rw [noLs_tDs F]; rfl
theorem goodF_nil {n : Nat} {F : List (List Int)} (g : goodF (n : Int) F) (h : [] ∉ F) : goodF (n : Int) ([[]] ++ F) := by
  refine ⟨fun k hk => ?_, ?_⟩
  · rcases List.mem_append.mp hk with hk | hk
    · rw [List.mem_singleton.mp hk]; rfl
    · exact g.1 k hk
  · show ([] :: F).Pairwise _
    refine List.pairwise_cons.mpr ⟨fun k hk => ?_, g.2⟩
    cases k with
    | nil => exact absurd hk h
    | cons x k => rfl
theorem none_none {F : List (List Int)} : notNone (noneD F) = (noneF F 5000 [([], [])]).isSome := by
  unfold noneD
  cases noneF F 5000 [([], [])] <;> rfl
theorem noneF_len {n : Nat} {F : List (List Int)} (hF : ∀ a ∈ F, goodS (n : Int) (-1) a = true) : ∀ (f : Nat) (rows : List Row), (∀ x ∈ rows, RowOk n F x) → ∀ ps, noneF F f rows = some ps → ps.length ≤ F.length
  | 0, _, _, _, h => by cases h
  | f + 1, rows, o, ps, h => by
    have no : ∀ y ∈ nextF F rows, RowOk n F y := fun y hy => by
      obtain ⟨x, hx, hy⟩ := List.mem_flatMap.mp hy
      exact kids_ok hF (o x hx) y hy
    rw [noneF] at h
    split at h
    · cases h
    · cases hf : (nextF F rows).find? (fun x => decide (x.2 = [])) with
      | some y =>
        rw [hf] at h
        cases h
        have := no y (List.mem_of_find?_eq_some hf)
        have h1 := this.hi
        have h2 := this.len
        omega
      | none => rw [hf] at h; exact noneF_len hF f _ no ps h
/-- told, looked at, changed, asked again -/
theorem fin_ok {n : Nat} (h1 : 1 ≤ n) (hn : n ≤ 8) (s0 s2 s3 : Sl) {F : List (List Int)} (g : goodF (n : Int) F) (hl : F.length ≤ 12) : ∀ x5 x6, ∃ y5 y6,
    execs G__law_came (.cons (.asg 5 false (.call ("_law_first_none" : Str) (.cons (.var 4) .nil))) (.cons (.asg 6 true (.fcall ("none_sum" : Str) (.cons (.var 1) (.cons (.var 4) .nil)))) (.cons (.ifT 6 (.or (.not (.call ("_law_same" : Str) (.cons (.var 6) (.cons (.var 5) .nil)))) (.cmp .ne (.cmp .isN (.var 5) .none) (.cmp .eq (.call ("rank" : Str) (.cons (.var 1) (.cons (.var 4) .nil))) (.blt .len (.cons (.var 4) .nil))))) (.cons (.ret (.bl false)) .nil) .nil) (.cons (.ifs (.cmp .notN (.var 5) .none) (.cons (.app 6 (.int 0)) (.cons (.ifs (.not (.call ("_law_same" : Str) (.cons (.call ("none_sum" : Str) (.cons (.var 1) (.cons (.var 4) .nil))) (.cons (.var 5) .nil)))) (.cons (.ret (.bl false)) .nil) .nil) .nil)) .nil) .nil)))) [s0, .sh (.int (n : Int)), s2, s3, .sh (fD F), x5, x6] = .ok (.next [s0, .sh (.int (n : Int)), s2, s3, .sh (fD F), y5, y6]) := fun x5 x6 => by
  have a1 := m_first_none_ok hn g.1 hl
  have a2 : m_none_sum [.int (n : Int), fD F] = .ok (noneD F) := m_none_sum_ok h1 hn g hl
  have a3 := m_rank_ok h1 hn g (by omega)
  have a4 := same_noneD F
  have a5 := frD_noneD F
  have a6 := noLs_nf (n : Int) F
  have k1 : cmpD .isN (noneD F) .none = .ok (.bool (!notNone (noneD F))) := rfl
  have k2 : cmpD .notN (noneD F) .none = .ok (.bool (notNone (noneD F))) := rfl
  have nr := none_rank hn g.1 (by omega : F.length < 5000)
  have k3 : cmpD .ne (.bool (!notNone (noneD F))) (.bool (decide ((((partF 0 F [] [] []).1.length : Nat) : Int) = ((F.length : Nat) : Int)))) = .ok (.bool false) := by
    have : (!notNone (noneD F)) = decide ((((partF 0 F [] [] []).1.length : Nat) : Int) = ((F.length : Nat) : Int)) := by
      rw [none_none]
      cases e : noneF F 5000 [([], [])] with
      | none =>
        have := nr.mp e
        rw [this]
        simp
      | some ps =>
        have : ¬ (partF 0 F [] [] []).1.length = F.length := fun z => by rw [nr.mpr z] at e; cases e
        rw [decide_eq_false (by omega)]
        rfl
    rw [this]
    cases decide ((((partF 0 F [] [] []).1.length : Nat) : Int) = ((F.length : Nat) : Int)) <;> rfl
  cases e : noneF F 5000 [([], [])] with
  | none =>
    have eD : noneD F = .none := by unfold noneD; rw [e]
    refine ⟨.sh .none, .sh .none, ?_⟩
    rw [eD] at a1 a2 a4 a5 k1 k2 k3
    have mo : mkOwn (.none : D) = .sh .none := rfl
    have fz : frzS (.sh (.none : D)) = .sh .none := rfl
    have nn : notNone (.none : D) = false := rfl
    simp only [nn, Bool.not_false] at k1 k2 k3
    simp only [DL.execs, DL.exec, DL.ev, DL.evs, DL.evo, DL.evc, DL.evi, DL.evB_bool, DL.getSh0, DL.getSh_s, DL.getB0, DL.getB0o, DL.getB_s, DL.M.bind_ok, DL.M.bind_ex, DL.M.ofO_some, DL.onNext, if_true, if_false, if_pos, Bool.false_eq_true, DL.put, DL.tyD, List.set_cons_zero, List.set_cons_succ, Bool.not_true, Bool.not_false, DL.forRun, DL.bindT, DL.setAll, DL.items_t, DL.items_l, DL.c_lti, DL.c_lei, DL.c_gti, DL.c_gei, DL.c_eqi, DL.c_nei, DL.wipe, List.map_cons, List.map_nil, DL.fl, reduceCtorEq, false_and, and_false, Nat.reduceEqDiff, DL.noX_ok, DL.items_lD, DL.items_fD, DL.items_tD, DL.mkTup0, DL.mkTup1i, DL.mkTup1t, DL.mkTup2t, DL.mkLst0, DL.mkLst1t, DL.sorted_lD, DL.tuple_lD, DL.len_lD, DL.len_fD, DL.len_tD, eq_self, and_self, g_law__law_first_none, a1, g_law_none_sum, a2, a5, a6, mo, List.getElem?_cons_succ, List.getElem?_cons_zero, fz, g_law__law_same, a4, k1, g_law_rank, a3, k3, k2, nn]
  | some ps =>
    have eD : noneD F = zD ps := by unfold noneD; rw [e]
    refine ⟨.sh (zD ps), .own (.list (ps.map .int ++ [.int 0])), ?_⟩
    rw [eD] at a1 a2 a4 a5 k1 k2 k3
    have mo : mkOwn (zD ps) = .own (.list (ps.map .int)) := rfl
    have fz : frzS (.own (.list (ps.map PyData.int))) = .sh (zD ps) := rfl
    have nn : notNone (zD ps) = true := rfl
    simp only [nn, Bool.not_true] at k1 k2 k3
    have lp : (ps.map PyData.int).length < line := by
      have := noneF_len g.1 5000 _ rows0 ps e
      rw [List.length_map]
      exact Nat.lt_of_le_of_lt this (Nat.lt_of_le_of_lt hl (by decide))
    simp only [DL.execs, DL.exec, DL.ev, DL.evs, DL.evo, DL.evc, DL.evi, DL.evB_bool, DL.getSh0, DL.getSh_s, DL.getB0, DL.getB0o, DL.getB_s, DL.M.bind_ok, DL.M.bind_ex, DL.M.ofO_some, DL.onNext, if_true, if_false, if_pos, Bool.false_eq_true, DL.put, DL.tyD, List.set_cons_zero, List.set_cons_succ, Bool.not_true, Bool.not_false, DL.forRun, DL.bindT, DL.setAll, DL.items_t, DL.items_l, DL.c_lti, DL.c_lei, DL.c_gti, DL.c_gei, DL.c_eqi, DL.c_nei, DL.wipe, List.map_cons, List.map_nil, DL.fl, reduceCtorEq, false_and, and_false, Nat.reduceEqDiff, DL.noX_ok, DL.items_lD, DL.items_fD, DL.items_tD, DL.mkTup0, DL.mkTup1i, DL.mkTup1t, DL.mkTup2t, DL.mkLst0, DL.mkLst1t, DL.sorted_lD, DL.tuple_lD, DL.len_lD, DL.len_fD, DL.len_tD, eq_self, and_self, g_law__law_first_none, a1, g_law_none_sum, a2, a5, a6, mo, List.getElem?_cons_succ, List.getElem?_cons_zero, fz, g_law__law_same, a4, k1, g_law_rank, a3, k3, k2, nn, lp]
theorem cell_ok {n : Nat} (h1 : 1 ≤ n) (hn : n ≤ 8) (s0 s3 : Sl) (c : Int) (x4 x5 x6 : Sl) : ∃ y4 y5 y6, execs G__law_came (.cons (.asg 4 false (.call ("_law_family_by" : Str) (.cons (.var 1) (.cons (.bin .fdiv (.var 2) (.int 4)) (.cons (.int 9) .nil))))) (.cons (.ifs (.and (.cmp .eq (.bin .md (.var 2) (.int 4)) (.int 1)) (.cmp .nmem (.tup .nil) (.var 4))) (.cons (.asg 4 false (.bin .add (.tup (.cons (.tup .nil) .nil)) (.var 4))) .nil) .nil) (.cons (.asg 5 false (.call ("_law_first_none" : Str) (.cons (.var 4) .nil))) (.cons (.asg 6 true (.fcall ("none_sum" : Str) (.cons (.var 1) (.cons (.var 4) .nil)))) (.cons (.ifT 6 (.or (.not (.call ("_law_same" : Str) (.cons (.var 6) (.cons (.var 5) .nil)))) (.cmp .ne (.cmp .isN (.var 5) .none) (.cmp .eq (.call ("rank" : Str) (.cons (.var 1) (.cons (.var 4) .nil))) (.blt .len (.cons (.var 4) .nil))))) (.cons (.ret (.bl false)) .nil) .nil) (.cons (.ifs (.cmp .notN (.var 5) .none) (.cons (.app 6 (.int 0)) (.cons (.ifs (.not (.call ("_law_same" : Str) (.cons (.call ("none_sum" : Str) (.cons (.var 1) (.cons (.var 4) .nil))) (.cons (.var 5) .nil)))) (.cons (.ret (.bl false)) .nil) .nil) .nil)) .nil) .nil)))))) [s0, .sh (.int (n : Int)), .sh (.int c), s3, x4, x5, x6] = .ok (.next [s0, .sh (.int (n : Int)), .sh (.int c), s3, y4, y5, y6]) := by
  have n4 : (4 : Int) ≠ 0 ∧ (4 : Int).natAbs < 1073741824 := by decide
  obtain ⟨F, hF, hs, hp, hl⟩ := m_law_family_by_ok (m := 9) hn (by decide) (c.fdiv 4)
  have hF : m__law_family_by [.int (n : Int), .int (c.fdiv 4), .int 9] = .ok (fD F) := hF
  have g := sub_good hs hp
  have md := md_ok (i := c) (j := 4) n4.1
  have fd := fdiv_ok (i := c) (j := 4) n4
  have e1 : exec G__law_came (.asg 4 false (.call ("_law_family_by" : Str) (.cons (.var 1) (.cons (.bin .fdiv (.var 2) (.int 4)) (.cons (.int 9) .nil))))) [s0, .sh (.int (n : Int)), .sh (.int c), s3, x4, x5, x6] = .ok (.next [s0, .sh (.int (n : Int)), .sh (.int c), s3, .sh (fD F), x5, x6]) := by
    simp only [DL.execs, DL.exec, DL.ev, DL.evs, DL.evo, DL.evc, DL.evi, DL.evB_bool, DL.getSh0, DL.getSh_s, DL.getB0, DL.getB0o, DL.getB_s, DL.M.bind_ok, DL.M.bind_ex, DL.M.ofO_some, DL.onNext, if_true, if_false, if_pos, Bool.false_eq_true, DL.put, DL.tyD, List.set_cons_zero, List.set_cons_succ, Bool.not_true, Bool.not_false, DL.forRun, DL.bindT, DL.setAll, DL.items_t, DL.items_l, DL.c_lti, DL.c_lei, DL.c_gti, DL.c_gei, DL.c_eqi, DL.c_nei, DL.wipe, List.map_cons, List.map_nil, DL.fl, reduceCtorEq, false_and, and_false, Nat.reduceEqDiff, DL.noX_ok, DL.items_lD, DL.items_fD, DL.items_tD, DL.mkTup0, DL.mkTup1i, DL.mkTup1t, DL.mkTup2t, DL.mkLst0, DL.mkLst1t, DL.sorted_lD, DL.tuple_lD, DL.len_lD, DL.len_fD, DL.len_tD, fd, g_law__law_family_by, hF]
  have nm : cmpD .nmem (tD []) (fD F) = .ok (.bool (!decide ([] ∈ F))) := by
    have q := c_memF [] F
    have : okDep (fD F) (tD []) = true := okDep_of (by have := depth_fD F; omega)
    show (if okDep (fD F) (tD []) = true then _ else _) = _
    rw [if_pos this, mem_tDs]
  have ad : binD .add (fD [[]]) (fD F) = .ok (fD ([[]] ++ F)) := add_fD (line256 (by simp; omega))
  have t1 : mkTup [tD []] = .ok (fD [[]]) := mkTup1t []
  obtain ⟨F', e2, g', hl'⟩ : ∃ F', exec G__law_came (.ifs (.and (.cmp .eq (.bin .md (.var 2) (.int 4)) (.int 1)) (.cmp .nmem (.tup .nil) (.var 4))) (.cons (.asg 4 false (.bin .add (.tup (.cons (.tup .nil) .nil)) (.var 4))) .nil) .nil) [s0, .sh (.int (n : Int)), .sh (.int c), s3, .sh (fD F), x5, x6] = .ok (.next [s0, .sh (.int (n : Int)), .sh (.int c), s3, .sh (fD F'), x5, x6]) ∧ goodF (n : Int) F' ∧ F'.length ≤ 12 := by
    by_cases z1 : c.fmod 4 = 1
    · by_cases z2 : [] ∈ F
      · exact ⟨F, by simp only [DL.execs, DL.exec, DL.ev, DL.evs, DL.evo, DL.evc, DL.evi, DL.evB_bool, DL.getSh0, DL.getSh_s, DL.getB0, DL.getB0o, DL.getB_s, DL.M.bind_ok, DL.M.bind_ex, DL.M.ofO_some, DL.onNext, if_true, if_false, if_pos, Bool.false_eq_true, DL.put, DL.tyD, List.set_cons_zero, List.set_cons_succ, Bool.not_true, Bool.not_false, DL.forRun, DL.bindT, DL.setAll, DL.items_t, DL.items_l, DL.c_lti, DL.c_lei, DL.c_gti, DL.c_gei, DL.c_eqi, DL.c_nei, DL.wipe, List.map_cons, List.map_nil, DL.fl, reduceCtorEq, false_and, and_false, Nat.reduceEqDiff, DL.noX_ok, DL.items_lD, DL.items_fD, DL.items_tD, DL.mkTup0, DL.mkTup1i, DL.mkTup1t, DL.mkTup2t, DL.mkLst0, DL.mkLst1t, DL.sorted_lD, DL.tuple_lD, DL.len_lD, DL.len_fD, DL.len_tD, md, z1, decide_true, nm, z2, Bool.not_true], g, by omega⟩
      · exact ⟨[[]] ++ F, by simp only [DL.execs, DL.exec, DL.ev, DL.evs, DL.evo, DL.evc, DL.evi, DL.evB_bool, DL.getSh0, DL.getSh_s, DL.getB0, DL.getB0o, DL.getB_s, DL.M.bind_ok, DL.M.bind_ex, DL.M.ofO_some, DL.onNext, if_true, if_false, if_pos, Bool.false_eq_true, DL.put, DL.tyD, List.set_cons_zero, List.set_cons_succ, Bool.not_true, Bool.not_false, DL.forRun, DL.bindT, DL.setAll, DL.items_t, DL.items_l, DL.c_lti, DL.c_lei, DL.c_gti, DL.c_gei, DL.c_eqi, DL.c_nei, DL.wipe, List.map_cons, List.map_nil, DL.fl, reduceCtorEq, false_and, and_false, Nat.reduceEqDiff, DL.noX_ok, DL.items_lD, DL.items_fD, DL.items_tD, DL.mkTup0, DL.mkTup1i, DL.mkTup1t, DL.mkTup2t, DL.mkLst0, DL.mkLst1t, DL.sorted_lD, DL.tuple_lD, DL.len_lD, DL.len_fD, DL.len_tD, md, z1, decide_true, nm, z2, decide_false, Bool.not_false, ad, t1], goodF_nil g z2, by simp; omega⟩
    · exact ⟨F, by simp only [DL.execs, DL.exec, DL.ev, DL.evs, DL.evo, DL.evc, DL.evi, DL.evB_bool, DL.getSh0, DL.getSh_s, DL.getB0, DL.getB0o, DL.getB_s, DL.M.bind_ok, DL.M.bind_ex, DL.M.ofO_some, DL.onNext, if_true, if_false, if_pos, Bool.false_eq_true, DL.put, DL.tyD, List.set_cons_zero, List.set_cons_succ, Bool.not_true, Bool.not_false, DL.forRun, DL.bindT, DL.setAll, DL.items_t, DL.items_l, DL.c_lti, DL.c_lei, DL.c_gti, DL.c_gei, DL.c_eqi, DL.c_nei, DL.wipe, List.map_cons, List.map_nil, DL.fl, reduceCtorEq, false_and, and_false, Nat.reduceEqDiff, DL.noX_ok, DL.items_lD, DL.items_fD, DL.items_tD, DL.mkTup0, DL.mkTup1i, DL.mkTup1t, DL.mkTup2t, DL.mkLst0, DL.mkLst1t, DL.sorted_lD, DL.tuple_lD, DL.len_lD, DL.len_fD, DL.len_tD, md, z1, decide_false], g, by omega⟩
  obtain ⟨y5, y6, e3⟩ := fin_ok h1 hn s0 (.sh (.int c)) s3 g' hl' x5 x6
  refine ⟨.sh (fD F'), y5, y6, ?_⟩
  rw [ex_cons e1, ex_cons e2]
  exact e3
theorem outer_for {n : Nat} (h1 : 1 ≤ n) (hn : n ≤ 8) (s0 s3 : Sl) : ∀ (cs : List Int) (x2 x4 x5 x6 : Sl), ∃ y2 y4 y5 y6, forRun (.nm 2) (execs G__law_came (.cons (.asg 4 false (.call ("_law_family_by" : Str) (.cons (.var 1) (.cons (.bin .fdiv (.var 2) (.int 4)) (.cons (.int 9) .nil))))) (.cons (.ifs (.and (.cmp .eq (.bin .md (.var 2) (.int 4)) (.int 1)) (.cmp .nmem (.tup .nil) (.var 4))) (.cons (.asg 4 false (.bin .add (.tup (.cons (.tup .nil) .nil)) (.var 4))) .nil) .nil) (.cons (.asg 5 false (.call ("_law_first_none" : Str) (.cons (.var 4) .nil))) (.cons (.asg 6 true (.fcall ("none_sum" : Str) (.cons (.var 1) (.cons (.var 4) .nil)))) (.cons (.ifT 6 (.or (.not (.call ("_law_same" : Str) (.cons (.var 6) (.cons (.var 5) .nil)))) (.cmp .ne (.cmp .isN (.var 5) .none) (.cmp .eq (.call ("rank" : Str) (.cons (.var 1) (.cons (.var 4) .nil))) (.blt .len (.cons (.var 4) .nil))))) (.cons (.ret (.bl false)) .nil) .nil) (.cons (.ifs (.cmp .notN (.var 5) .none) (.cons (.app 6 (.int 0)) (.cons (.ifs (.not (.call ("_law_same" : Str) (.cons (.call ("none_sum" : Str) (.cons (.var 1) (.cons (.var 4) .nil))) (.cons (.var 5) .nil)))) (.cons (.ret (.bl false)) .nil) .nil) .nil)) .nil) .nil))))))) (cs.map .int) [s0, .sh (.int (n : Int)), x2, s3, x4, x5, x6] = .ok (.next [s0, .sh (.int (n : Int)), y2, s3, y4, y5, y6])
  | [], x2, x4, x5, x6 => ⟨_, _, _, _, rfl⟩
  | c :: cs, x2, x4, x5, x6 => by
    obtain ⟨y4, y5, y6, hstep⟩ := cell_ok h1 hn s0 s3 c x4 x5 x6
    obtain ⟨z2, z4, z5, z6, ih⟩ := outer_for h1 hn s0 s3 cs (.sh (.int c)) y4 y5 y6
    refine ⟨z2, z4, z5, z6, ?_⟩
    show ((M.ofO (some ([s0, .sh (.int (n : Int)), .sh (.int c), s3, x4, x5, x6] : Rho))).bind fun r1 => (execs G__law_came (.cons (.asg 4 false (.call ("_law_family_by" : Str) (.cons (.var 1) (.cons (.bin .fdiv (.var 2) (.int 4)) (.cons (.int 9) .nil))))) (.cons (.ifs (.and (.cmp .eq (.bin .md (.var 2) (.int 4)) (.int 1)) (.cmp .nmem (.tup .nil) (.var 4))) (.cons (.asg 4 false (.bin .add (.tup (.cons (.tup .nil) .nil)) (.var 4))) .nil) .nil) (.cons (.asg 5 false (.call ("_law_first_none" : Str) (.cons (.var 4) .nil))) (.cons (.asg 6 true (.fcall ("none_sum" : Str) (.cons (.var 1) (.cons (.var 4) .nil)))) (.cons (.ifT 6 (.or (.not (.call ("_law_same" : Str) (.cons (.var 6) (.cons (.var 5) .nil)))) (.cmp .ne (.cmp .isN (.var 5) .none) (.cmp .eq (.call ("rank" : Str) (.cons (.var 1) (.cons (.var 4) .nil))) (.blt .len (.cons (.var 4) .nil))))) (.cons (.ret (.bl false)) .nil) .nil) (.cons (.ifs (.cmp .notN (.var 5) .none) (.cons (.app 6 (.int 0)) (.cons (.ifs (.not (.call ("_law_same" : Str) (.cons (.call ("none_sum" : Str) (.cons (.var 1) (.cons (.var 4) .nil))) (.cons (.var 5) .nil)))) (.cons (.ret (.bl false)) .nil) .nil) .nil)) .nil) .nil)))))) r1).bind fun f => match f with
      | .next r2 => forRun (.nm 2) (execs G__law_came (.cons (.asg 4 false (.call ("_law_family_by" : Str) (.cons (.var 1) (.cons (.bin .fdiv (.var 2) (.int 4)) (.cons (.int 9) .nil))))) (.cons (.ifs (.and (.cmp .eq (.bin .md (.var 2) (.int 4)) (.int 1)) (.cmp .nmem (.tup .nil) (.var 4))) (.cons (.asg 4 false (.bin .add (.tup (.cons (.tup .nil) .nil)) (.var 4))) .nil) .nil) (.cons (.asg 5 false (.call ("_law_first_none" : Str) (.cons (.var 4) .nil))) (.cons (.asg 6 true (.fcall ("none_sum" : Str) (.cons (.var 1) (.cons (.var 4) .nil)))) (.cons (.ifT 6 (.or (.not (.call ("_law_same" : Str) (.cons (.var 6) (.cons (.var 5) .nil)))) (.cmp .ne (.cmp .isN (.var 5) .none) (.cmp .eq (.call ("rank" : Str) (.cons (.var 1) (.cons (.var 4) .nil))) (.blt .len (.cons (.var 4) .nil))))) (.cons (.ret (.bl false)) .nil) .nil) (.cons (.ifs (.cmp .notN (.var 5) .none) (.cons (.app 6 (.int 0)) (.cons (.ifs (.not (.call ("_law_same" : Str) (.cons (.call ("none_sum" : Str) (.cons (.var 1) (.cons (.var 4) .nil))) (.cons (.var 5) .nil)))) (.cons (.ret (.bl false)) .nil) .nil) .nil)) .nil) .nil))))))) (cs.map .int) r2
      | .cont r2 => forRun (.nm 2) (execs G__law_came (.cons (.asg 4 false (.call ("_law_family_by" : Str) (.cons (.var 1) (.cons (.bin .fdiv (.var 2) (.int 4)) (.cons (.int 9) .nil))))) (.cons (.ifs (.and (.cmp .eq (.bin .md (.var 2) (.int 4)) (.int 1)) (.cmp .nmem (.tup .nil) (.var 4))) (.cons (.asg 4 false (.bin .add (.tup (.cons (.tup .nil) .nil)) (.var 4))) .nil) .nil) (.cons (.asg 5 false (.call ("_law_first_none" : Str) (.cons (.var 4) .nil))) (.cons (.asg 6 true (.fcall ("none_sum" : Str) (.cons (.var 1) (.cons (.var 4) .nil)))) (.cons (.ifT 6 (.or (.not (.call ("_law_same" : Str) (.cons (.var 6) (.cons (.var 5) .nil)))) (.cmp .ne (.cmp .isN (.var 5) .none) (.cmp .eq (.call ("rank" : Str) (.cons (.var 1) (.cons (.var 4) .nil))) (.blt .len (.cons (.var 4) .nil))))) (.cons (.ret (.bl false)) .nil) .nil) (.cons (.ifs (.cmp .notN (.var 5) .none) (.cons (.app 6 (.int 0)) (.cons (.ifs (.not (.call ("_law_same" : Str) (.cons (.call ("none_sum" : Str) (.cons (.var 1) (.cons (.var 4) .nil))) (.cons (.var 5) .nil)))) (.cons (.ret (.bl false)) .nil) .nil) .nil)) .nil) .nil))))))) (cs.map .int) r2
      | .brk r2 => .ok (.next r2)
      | .ret d => .ok (.ret d)) = _
    rw [M.ofO_some, M.bind_ok, hstep]
    exact ih
theorem came_ok {n : Int} {f d : D} (h : m_none_sum [.int n, f] = .ok d) : m__law_came [.int n, f] = .ok d := by
  refine run_ret [.sh (.int n), .sh f, .un] rfl rfl ?_
  simp only [f__law_came, DL.execs, DL.exec, DL.ev, DL.evs, DL.evo, DL.evc, DL.evi, DL.evB_bool, DL.getSh0, DL.getSh_s, DL.getB0, DL.getB0o, DL.getB_s, DL.M.bind_ok, DL.M.bind_ex, DL.M.ofO_some, DL.onNext, if_true, if_false, if_pos, Bool.false_eq_true, DL.put, DL.tyD, List.set_cons_zero, List.set_cons_succ, Bool.not_true, Bool.not_false, DL.forRun, DL.bindT, DL.setAll, DL.items_t, DL.items_l, DL.c_lti, DL.c_lei, DL.c_gti, DL.c_gei, DL.c_eqi, DL.c_nei, DL.wipe, List.map_cons, List.map_nil, DL.fl, reduceCtorEq, false_and, and_false, Nat.reduceEqDiff, DL.noX_ok, DL.items_lD, DL.items_fD, DL.items_tD, DL.mkTup0, DL.mkTup1i, DL.mkTup1t, DL.mkTup2t, DL.mkLst0, DL.mkLst1t, DL.sorted_lD, DL.tuple_lD, DL.len_lD, DL.len_fD, DL.len_tD, g__law_came_none_sum, h]
  rfl
theorem few_13 : m_need_few [.int 13, .int 12] = .ex ("TooGreat" : Str) [(("most" : Str), .int 12), (("many" : Str), .int 13)] := by
  refine run_ex [.sh (.int 13), .sh (.int 12)] rfl rfl ?_
  rfl
theorem came_13 {n : Nat} (h1 : 1 ≤ n) (hn : n ≤ 8) {F : List (List Int)} (g : goodF (n : Int) F) (hl : F.length = 13) : m__law_came [.int (n : Int), fD F] = .ok (.tuple [.int 9, .int 13, .int 12]) := by
  have gi : isFrom 1 8 (.int (n : Int)) = true := by
    show (decide _ && decide _) = true
    rw [Bool.and_eq_true]
    exact ⟨decide_eq_true (by omega), decide_eq_true (by omega)⟩
  have l13 : ((F.length : Nat) : Int) = 13 := by omega
  have h : m_none_sum [.int (n : Int), fD F] = .ex ("TooGreat" : Str) [(("most" : Str), .int 12), (("many" : Str), .int 13)] := by
    refine run_ex [.sh (.int (n : Int)), .sh (fD F), .un, .un, .un, .un, .un] rfl rfl ?_
    simp only [f_none_sum, DL.execs, DL.exec, DL.ev, DL.evs, DL.evo, DL.evc, DL.evi, DL.evB_bool, DL.getSh0, DL.getSh_s, DL.getB0, DL.getB0o, DL.getB_s, DL.M.bind_ok, DL.M.bind_ex, DL.M.ofO_some, DL.onNext, if_true, if_false, if_pos, Bool.false_eq_true, DL.put, DL.tyD, List.set_cons_zero, List.set_cons_succ, Bool.not_true, Bool.not_false, DL.bindT, DL.setAll, DL.items_t, DL.items_l, DL.c_lti, DL.c_lei, DL.c_gti, DL.c_gei, DL.c_eqi, DL.c_nei, DL.wipe, List.map_cons, List.map_nil, DL.fl, reduceCtorEq, false_and, and_false, Nat.reduceEqDiff, DL.noX_ok, DL.items_lD, DL.items_fD, DL.items_tD, DL.mkTup0, DL.mkTup1i, DL.mkTup1t, DL.mkTup2t, DL.mkLst0, DL.mkLst1t, DL.sorted_lD, DL.tuple_lD, DL.len_lD, DL.len_fD, DL.len_tD, g_none_sum_need_ground, m_need_ground_ok, gi, g_none_sum_need_family, m_need_family_ok, flawD_good g, g_none_sum_need_few, l13, few_13, M.bind_ex]
  refine run_ret [.sh (.int (n : Int)), .sh (fD F), .un] rfl rfl ?_
  simp only [f__law_came, DL.execs, DL.exec, DL.ev, DL.evs, DL.evo, DL.evc, DL.evi, DL.evB_bool, DL.getSh0, DL.getSh_s, DL.getB0, DL.getB0o, DL.getB_s, DL.M.bind_ok, DL.M.bind_ex, DL.M.ofO_some, DL.onNext, if_true, if_false, if_pos, Bool.false_eq_true, DL.put, DL.tyD, List.set_cons_zero, List.set_cons_succ, Bool.not_true, Bool.not_false, DL.forRun, DL.bindT, DL.setAll, DL.items_t, DL.items_l, DL.c_lti, DL.c_lei, DL.c_gti, DL.c_gei, DL.c_eqi, DL.c_nei, DL.wipe, List.map_cons, List.map_nil, DL.fl, reduceCtorEq, false_and, and_false, Nat.reduceEqDiff, DL.noX_ok, DL.items_lD, DL.items_fD, DL.items_tD, DL.mkTup0, DL.mkTup1i, DL.mkTup1t, DL.mkTup2t, DL.mkLst0, DL.mkLst1t, DL.sorted_lD, DL.tuple_lD, DL.len_lD, DL.len_fD, DL.len_tD, g__law_came_none_sum, h, M.bind_ex]
  rfl
theorem law_ok (ns : List Int) (_ : ns.length ≤ 63) : m_law [.list (ns.map .int)] = .ok (.bool true) := by
  obtain ⟨a, ha⟩ := m_cell_at_ok ns 0
  obtain ⟨b, hb⟩ := m_cell_at_ok ns 1
  have ha : m__law_cell_at [.list (ns.map .int), .int 0] = .ok (.int a) := ha
  have hb : m__law_cell_at [.list (ns.map .int), .int 1] = .ok (.int b) := hb
  have hb8 := fmod_bd a (b := 8) (by decide)
  obtain ⟨n, e, h1, hn⟩ : ∃ n : Nat, 1 + a.fmod 8 = (n : Int) ∧ 1 ≤ n ∧ n ≤ 8 := ⟨(1 + a.fmod 8).toNat, by omega, by omega, by omega⟩
  have n8 : (8 : Int) ≠ 0 := by decide
  have e1 : slcD (.list (ns.map PyData.int)) (some 2) (some 4) = .ok (.list (((ns.drop 2).take 2).map .int)) := by
    show M.ok (PyData.list (((ns.map PyData.int).drop (min 2 (ns.map PyData.int).length)).take (min 4 (ns.map PyData.int).length - min 2 (ns.map PyData.int).length))) = _
    rw [List.map_take, List.map_drop]
    generalize ns.map PyData.int = xs
    congr 2
    by_cases z : 2 ≤ xs.length
    · rw [Nat.min_eq_left z, List.take_eq_take_iff, List.length_drop]
      omega
    · rw [Nat.min_eq_right (by omega : xs.length ≤ 2), List.drop_of_length_le (Nat.le_refl _), List.drop_of_length_le (by omega : xs.length ≤ 2)]
      simp
  have e2 : mkLst [.int b] = .ok (.list [.int b]) := mkLst_ok (by show 1 ≤ line; decide)
  have e3 : binD .add (.list [.int b]) (.list (((ns.drop 2).take 2).map .int)) = .ok (.list ((b :: (ns.drop 2).take 2).map .int)) := by
    show mkLst _ = _
    rw [mkLst_ok (line256 (by simp; omega))]
    rfl
  obtain ⟨y2, y4, y5, y6, h⟩ := outer_for h1 hn (.sh (.list (ns.map .int))) .un (b :: (ns.drop 2).take 2) .un .un .un .un
  have hs := m_law_sets_ok hn
  have sl : (setsS n).length = 2 ^ n := by unfold setsS; rw [sortI_len, setsN_len]
  have c1 : slcD (lD (setsS n)) none (some 13) = .ok (lD ((setsS n).take 13)) := by
    show M.ok (PyData.list (cut ((setsS n).map tD) none (some ((13 : Nat) : Int)))) = _
    rw [cut_take, ← List.map_take]
    rfl
  generalize hM : (setsS n).take 13 = F at c1
  have gF : goodF (n : Int) F := by
    refine sub_good (fun k hk => ?_) ?_
    · rw [← hM] at hk; exact List.mem_of_mem_take hk
    · rw [← hM]; exact (setsS_strict n).sublist (List.take_sublist _ _)
  have lF : F.length ≤ 13 := by rw [← hM, List.length_take]; omega
  have c2 : slcD (fD F) (some 1) none = .ok (fD (F.drop 1)) := by
    show M.ok (PyData.tuple (cut (F.map tD) (some 1) none)) = _
    have : cut (F.map tD) (some 1) none = (F.drop 1).map tD := by
      show ((F.map tD).drop (min 1 (F.map tD).length)).take ((F.map tD).length - min 1 (F.map tD).length) = _
      rw [List.length_map, ← List.map_drop, ← List.map_take]
      congr 1
      by_cases z : 1 ≤ F.length
      · rw [Nat.min_eq_left z]; exact List.take_of_length_le (by rw [List.length_drop]; omega)
      · have : F = [] := List.length_eq_zero_iff.mp (by omega)
        subst this; rfl
    rw [this]
    rfl
  have gD : goodF (n : Int) (F.drop 1) := ⟨fun k hk => gF.1 k (List.mem_of_mem_drop hk), gF.2.sublist (List.drop_sublist _ _)⟩
  have lD' : (F.drop 1).length ≤ 12 := by rw [List.length_drop]; omega
  have a1 := m_first_none_ok hn gD.1 lD'
  have a2 : m__law_came [.int (n : Int), fD (F.drop 1)] = .ok (noneD (F.drop 1)) := came_ok (m_none_sum_ok h1 hn gD lD')
  have a4 := same_noneD (F.drop 1)
  have t3 : mkTup [.int 9, .int 13, .int 12] = .ok (.tuple [.int 9, .int 13, .int 12]) := mkTup_ok (by show 3 ≤ line; decide)
  have s3 : m__law_same [.tuple [.int 9, .int 13, .int 12], .tuple [.int 9, .int 13, .int 12]] = .ok (.bool true) := same_tup 9 _ fun x hx => by
    rcases List.mem_cons.mp hx with rfl | hx
    · exact same_int 8 _
    rcases List.mem_cons.mp hx with rfl | hx
    · exact same_int 8 _
    rcases List.mem_cons.mp hx with rfl | hx
    · exact same_int 8 _
    cases hx
  refine run_ret [.sh (.list (ns.map .int)), .un, .un, .un, .un, .un, .un] rfl rfl ?_
  have x1 : exec G__law_came (.asg 1 false (.bin .add (.int 1) (.bin .md (.call ("_law_cell_at" : Str) (.cons (.var 0) (.cons (.int 0) .nil))) (.int 8)))) [.sh (.list (ns.map .int)), .un, .un, .un, .un, .un, .un] = .ok (.next [.sh (.list (ns.map .int)), .sh (.int (n : Int)), .un, .un, .un, .un, .un]) := by
    simp only [DL.execs, DL.exec, DL.ev, DL.evs, DL.evo, DL.evc, DL.evi, DL.evB_bool, DL.getSh0, DL.getSh_s, DL.getB0, DL.getB0o, DL.getB_s, DL.M.bind_ok, DL.M.bind_ex, DL.M.ofO_some, DL.onNext, if_true, if_false, if_pos, Bool.false_eq_true, DL.put, DL.tyD, List.set_cons_zero, List.set_cons_succ, Bool.not_true, Bool.not_false, DL.forRun, DL.bindT, DL.setAll, DL.items_t, DL.items_l, DL.c_lti, DL.c_lei, DL.c_gti, DL.c_gei, DL.c_eqi, DL.c_nei, DL.wipe, List.map_cons, List.map_nil, DL.fl, reduceCtorEq, false_and, and_false, Nat.reduceEqDiff, DL.noX_ok, DL.items_lD, DL.items_fD, DL.items_tD, DL.mkTup0, DL.mkTup1i, DL.mkTup1t, DL.mkTup2t, DL.mkLst0, DL.mkLst1t, DL.sorted_lD, DL.tuple_lD, DL.len_lD, DL.len_fD, DL.len_tD, g_law__law_cell_at, ha, md_ok n8, add_i, e]
  have x2 : exec G__law_came (.for_ (.nm 2) (.seq (.bin .add (.lst (.cons (.call ("_law_cell_at" : Str) (.cons (.var 0) (.cons (.int 1) .nil))) .nil)) (.slc (.var 0) (.yes (.int 2)) (.yes (.int 4))))) (.cons (.asg 4 false (.call ("_law_family_by" : Str) (.cons (.var 1) (.cons (.bin .fdiv (.var 2) (.int 4)) (.cons (.int 9) .nil))))) (.cons (.ifs (.and (.cmp .eq (.bin .md (.var 2) (.int 4)) (.int 1)) (.cmp .nmem (.tup .nil) (.var 4))) (.cons (.asg 4 false (.bin .add (.tup (.cons (.tup .nil) .nil)) (.var 4))) .nil) .nil) (.cons (.asg 5 false (.call ("_law_first_none" : Str) (.cons (.var 4) .nil))) (.cons (.asg 6 true (.fcall ("none_sum" : Str) (.cons (.var 1) (.cons (.var 4) .nil)))) (.cons (.ifT 6 (.or (.not (.call ("_law_same" : Str) (.cons (.var 6) (.cons (.var 5) .nil)))) (.cmp .ne (.cmp .isN (.var 5) .none) (.cmp .eq (.call ("rank" : Str) (.cons (.var 1) (.cons (.var 4) .nil))) (.blt .len (.cons (.var 4) .nil))))) (.cons (.ret (.bl false)) .nil) .nil) (.cons (.ifs (.cmp .notN (.var 5) .none) (.cons (.app 6 (.int 0)) (.cons (.ifs (.not (.call ("_law_same" : Str) (.cons (.call ("none_sum" : Str) (.cons (.var 1) (.cons (.var 4) .nil))) (.cons (.var 5) .nil)))) (.cons (.ret (.bl false)) .nil) .nil) .nil)) .nil) .nil))))))) [.sh (.list (ns.map .int)), .sh (.int (n : Int)), .un, .un, .un, .un, .un] = .ok (.next [.sh (.list (ns.map .int)), .sh (.int (n : Int)), y2, .un, y4, y5, y6]) := by
    show (evi _ _ _).bind _ = _
    have : evi G__law_came (.seq (.bin .add (.lst (.cons (.call ("_law_cell_at" : Str) (.cons (.var 0) (.cons (.int 1) .nil))) .nil)) (.slc (.var 0) (.yes (.int 2)) (.yes (.int 4))))) [.sh (.list (ns.map .int)), .sh (.int (n : Int)), .un, .un, .un, .un, .un] = .ok ((b :: (ns.drop 2).take 2).map .int) := by
      simp only [DL.execs, DL.exec, DL.ev, DL.evs, DL.evo, DL.evc, DL.evi, DL.evB_bool, DL.getSh0, DL.getSh_s, DL.getB0, DL.getB0o, DL.getB_s, DL.M.bind_ok, DL.M.bind_ex, DL.M.ofO_some, DL.onNext, if_true, if_false, if_pos, Bool.false_eq_true, DL.put, DL.tyD, List.set_cons_zero, List.set_cons_succ, Bool.not_true, Bool.not_false, DL.forRun, DL.bindT, DL.setAll, DL.items_t, DL.items_l, DL.c_lti, DL.c_lei, DL.c_gti, DL.c_gei, DL.c_eqi, DL.c_nei, DL.wipe, List.map_cons, List.map_nil, DL.fl, reduceCtorEq, false_and, and_false, Nat.reduceEqDiff, DL.noX_ok, DL.items_lD, DL.items_fD, DL.items_tD, DL.mkTup0, DL.mkTup1i, DL.mkTup1t, DL.mkTup2t, DL.mkLst0, DL.mkLst1t, DL.sorted_lD, DL.tuple_lD, DL.len_lD, DL.len_fD, DL.len_tD, g_law__law_cell_at, hb, e1, e2, e3]
    rw [this]
    exact h
  show execs G__law_came (.cons (.asg 1 false (.bin .add (.int 1) (.bin .md (.call ("_law_cell_at" : Str) (.cons (.var 0) (.cons (.int 0) .nil))) (.int 8)))) (.cons (.for_ (.nm 2) (.seq (.bin .add (.lst (.cons (.call ("_law_cell_at" : Str) (.cons (.var 0) (.cons (.int 1) .nil))) .nil)) (.slc (.var 0) (.yes (.int 2)) (.yes (.int 4))))) (.cons (.asg 4 false (.call ("_law_family_by" : Str) (.cons (.var 1) (.cons (.bin .fdiv (.var 2) (.int 4)) (.cons (.int 9) .nil))))) (.cons (.ifs (.and (.cmp .eq (.bin .md (.var 2) (.int 4)) (.int 1)) (.cmp .nmem (.tup .nil) (.var 4))) (.cons (.asg 4 false (.bin .add (.tup (.cons (.tup .nil) .nil)) (.var 4))) .nil) .nil) (.cons (.asg 5 false (.call ("_law_first_none" : Str) (.cons (.var 4) .nil))) (.cons (.asg 6 true (.fcall ("none_sum" : Str) (.cons (.var 1) (.cons (.var 4) .nil)))) (.cons (.ifT 6 (.or (.not (.call ("_law_same" : Str) (.cons (.var 6) (.cons (.var 5) .nil)))) (.cmp .ne (.cmp .isN (.var 5) .none) (.cmp .eq (.call ("rank" : Str) (.cons (.var 1) (.cons (.var 4) .nil))) (.blt .len (.cons (.var 4) .nil))))) (.cons (.ret (.bl false)) .nil) .nil) (.cons (.ifs (.cmp .notN (.var 5) .none) (.cons (.app 6 (.int 0)) (.cons (.ifs (.not (.call ("_law_same" : Str) (.cons (.call ("none_sum" : Str) (.cons (.var 1) (.cons (.var 4) .nil))) (.cons (.var 5) .nil)))) (.cons (.ret (.bl false)) .nil) .nil) .nil)) .nil) .nil))))))) (.cons (.asg 3 false (.blt .tuple (.cons (.slc (.call ("_law_sets" : Str) (.cons (.var 1) .nil)) .no (.yes (.int 13))) .nil))) (.cons (.ifs (.and (.cmp .eq (.blt .len (.cons (.var 3) .nil)) (.int 13)) (.not (.call ("_law_same" : Str) (.cons (.call ("_law_came" : Str) (.cons (.var 1) (.cons (.var 3) .nil))) (.cons (.tup (.cons (.int 9) (.cons (.int 13) (.cons (.int 12) .nil)))) .nil))))) (.cons (.ret (.bl false)) .nil) .nil) (.cons (.ret (.or (.cmp .lt (.blt .len (.cons (.var 3) .nil)) (.int 13)) (.call ("_law_same" : Str) (.cons (.call ("_law_came" : Str) (.cons (.var 1) (.cons (.slc (.var 3) (.yes (.int 1)) .no) .nil))) (.cons (.call ("_law_first_none" : Str) (.cons (.slc (.var 3) (.yes (.int 1)) .no) .nil)) .nil))))) .nil))))) _ = _
  rw [ex_cons x1, ex_cons x2]
  by_cases z : F.length = 13
  · have a5 := came_13 h1 hn gF z
    have l13 : ((F.length : Nat) : Int) = 13 := by omega
    have d1 : decide ((13 : Int) < 13) = false := by decide
    simp only [DL.execs, DL.exec, DL.ev, DL.evs, DL.evo, DL.evc, DL.evi, DL.evB_bool, DL.getSh0, DL.getSh_s, DL.getB0, DL.getB0o, DL.getB_s, DL.M.bind_ok, DL.M.bind_ex, DL.M.ofO_some, DL.onNext, if_true, if_false, if_pos, Bool.false_eq_true, DL.put, DL.tyD, List.set_cons_zero, List.set_cons_succ, Bool.not_true, Bool.not_false, DL.bindT, DL.setAll, DL.items_t, DL.items_l, DL.c_lti, DL.c_lei, DL.c_gti, DL.c_gei, DL.c_eqi, DL.c_nei, DL.wipe, List.map_cons, List.map_nil, DL.fl, reduceCtorEq, false_and, and_false, Nat.reduceEqDiff, DL.noX_ok, DL.items_lD, DL.items_fD, DL.items_tD, DL.mkTup0, DL.mkTup1i, DL.mkTup1t, DL.mkTup2t, DL.mkLst0, DL.mkLst1t, DL.sorted_lD, DL.tuple_lD, DL.len_lD, DL.len_fD, DL.len_tD, g_law__law_sets, hs, c1, l13, decide_true, g_law__law_came, a5, t3, g_law__law_same, s3, d1, c2, a2, g_law__law_first_none, a1, a4]
  · have l13 : ¬ ((F.length : Nat) : Int) = 13 := by omega
    have d1 : decide (((F.length : Nat) : Int) < 13) = true := decide_eq_true (by omega)
    simp only [DL.execs, DL.exec, DL.ev, DL.evs, DL.evo, DL.evc, DL.evi, DL.evB_bool, DL.getSh0, DL.getSh_s, DL.getB0, DL.getB0o, DL.getB_s, DL.M.bind_ok, DL.M.bind_ex, DL.M.ofO_some, DL.onNext, if_true, if_false, if_pos, Bool.false_eq_true, DL.put, DL.tyD, List.set_cons_zero, List.set_cons_succ, Bool.not_true, Bool.not_false, DL.bindT, DL.setAll, DL.items_t, DL.items_l, DL.c_lti, DL.c_lei, DL.c_gti, DL.c_gei, DL.c_eqi, DL.c_nei, DL.wipe, List.map_cons, List.map_nil, DL.fl, reduceCtorEq, false_and, and_false, Nat.reduceEqDiff, DL.noX_ok, DL.items_lD, DL.items_fD, DL.items_tD, DL.mkTup0, DL.mkTup1i, DL.mkTup1t, DL.mkTup2t, DL.mkLst0, DL.mkLst1t, DL.sorted_lD, DL.tuple_lD, DL.len_lD, DL.len_fD, DL.len_tD, g_law__law_sets, hs, c1, l13, decide_false, d1]
end LW

open PySem PySem.W PyProof.Rows in
set_option maxRecDepth 100000 in
set_option maxHeartbeats 0 in
theorem PySem.Challenge.cw_meetsets_k66_sums_to_none_holds : PySem.Challenge.rw_meetsets_k66_sums_to_none.Holds := by
  w_on; o_law; k_head; (case hw => w_witness2)
  k_fill
  refine DL.law_walk (l := PySem.Challenge.rw_meetsets_k66_sums_to_none) (k := 36) (x := "_law_script") (m := LW.m_law) rfl rfl ⟨rfl, by decide, by decide⟩ (fun w h Y => PySem.W.kIn_of Y) LW.law_ok ?F
  case F =>
    intro w mg fa h KX G hmg
    refine' LW.all_mk KX G hmg ?q_d__law_kinds ?q_kdf ?q_d_is_whole ?q_d_is_from ?q_d_ground_good ?q_d_set_good ?q_d_first_flaw ?q_d_need_ground ?q_d_need_family ?q_d_need_few ?q_d_unlike ?q_d_parted_ways ?q_d_own ?q_d_rank ?q_d_none_sum ?q_d__law_cell_at ?q_d__law_same ?q_d__law_stir ?q_d__law_sets ?q_d__law_family_by ?q_d__law_unlike ?q_d__law_total ?q_d__law_first_none ?q_d__law_came ?q_d_law ?q_c_NoGround ?q_c_NoFamily ?q_c_TooGreat ?q_g_MOST_POINTS ?q_g_MOST_GONE_THROUGH ?q_nl ?q_zz
    case q_d__law_kinds => (refine' DL.DefAt.mk ?a ?l ?c ?k; (case a => k_is); (case l => k_is); (case c => k_is); (case k => k_is))
    case q_kdf => (refine' LW.kdf_mk ?i0 ?v0 ?m0 ?m1 ?m2 ?m3 ?d0a ?d0b ?d0c ?d1a ?d1b ?d1c ?d2a ?d2b ?d2c ?d3a ?d3b ?d3c ?d4a ?d4b ?d4c ?d5a ?d5b ?d5c ?d6a ?d6b ?d6c ?d7a ?d7b ?d7c ?d8a ?d8b ?d8c ?d9a ?d9b ?d9c ?d10a ?d10b ?d10c ?d11a ?d11b ?d11c ?d12a ?d12b ?d12c ?d13a ?d13b ?d13c ?e0a ?e0b ?e0c ?e0d ?e0e ?e0f ?e0g ?e0h ?e0i ?e0j ?e0k ?e0s0 ?e0t0 ?e0s1 ?e0t1 ?e0s2 ?e0t2 ?e0s3 ?e0t3 ?e0s4 ?e0t4 ?e0s5 ?e0t5 ?e0s6 ?e0t6 ?e0s7 ?e0t7 ?e0s8 ?e0t8 ?e0s9 ?e0t9 ?e0s10 ?e0t10 ?e0s11 ?e0t11 ?e0s12 ?e0t12 ?e0s13 ?e0t13 ?e1a ?e1b ?e1c ?e1d ?e1e ?e1f ?e1g ?e1h ?e1i ?e1j ?e1k ?e1n0 ?e1s0 ?e1t0 ?e1s1 ?e1t1 ?e1s2 ?e1t2 ?e1s3 ?e1t3 ?e1s4 ?e1t4 ?e1s5 ?e1t5 ?e1s6 ?e1t6 ?e1s7 ?e1t7 ?e1s8 ?e1t8 ?e1s9 ?e1t9 ?e1s10 ?e1t10 ?e1s11 ?e1t11 ?e1s12 ?e1t12 ?e1s13 ?e1t13 ?e2a ?e2b ?e2c ?e2d ?e2e ?e2f ?e2g ?e2h ?e2i ?e2j ?e2k ?e2n0 ?e2n1 ?e2s0 ?e2t0 ?e2s1 ?e2t1 ?e2s2 ?e2t2 ?e2s3 ?e2t3 ?e2s4 ?e2t4 ?e2s5 ?e2t5 ?e2s6 ?e2t6 ?e2s7 ?e2t7 ?e2s8 ?e2t8 ?e2s9 ?e2t9 ?e2s10 ?e2t10 ?e2s11 ?e2t11 ?e2s12 ?e2t12 ?e2s13 ?e2t13; (case i0 => k_is); (case v0 => k_is); (case m0 => k_is); (case m1 => k_is); (case m2 => k_is); (case m3 => k_is); (case d0a => k_is); (case d0b => k_is); (case d0c => k_is); (case d1a => k_is); (case d1b => k_is); (case d1c => k_is); (case d2a => k_is); (case d2b => k_is); (case d2c => k_is); (case d3a => k_is); (case d3b => k_is); (case d3c => k_is); (case d4a => k_is); (case d4b => k_is); (case d4c => k_is); (case d5a => k_is); (case d5b => k_is); (case d5c => k_is); (case d6a => k_is); (case d6b => k_is); (case d6c => k_is); (case d7a => k_is); (case d7b => k_is); (case d7c => k_is); (case d8a => k_is); (case d8b => k_is); (case d8c => k_is); (case d9a => k_is); (case d9b => k_is); (case d9c => k_is); (case d10a => k_is); (case d10b => k_is); (case d10c => k_is); (case d11a => k_is); (case d11b => k_is); (case d11c => k_is); (case d12a => k_is); (case d12b => k_is); (case d12c => k_is); (case d13a => k_is); (case d13b => k_is); (case d13c => k_is); (case e0a => k_is); (case e0b => k_is); (case e0c => k_is); (case e0d => k_is); (case e0e => k_is); (case e0f => k_is); (case e0g => k_is); (case e0h => k_is); (case e0i => k_is); (case e0j => k_is); (case e0k => k_is); (case e0s0 => k_is); (case e0t0 => first | rfl | decide +kernel); (case e0s1 => k_is); (case e0t1 => first | rfl | decide +kernel); (case e0s2 => k_is); (case e0t2 => first | rfl | decide +kernel); (case e0s3 => k_is); (case e0t3 => first | rfl | decide +kernel); (case e0s4 => k_is); (case e0t4 => first | rfl | decide +kernel); (case e0s5 => k_is); (case e0t5 => first | rfl | decide +kernel); (case e0s6 => k_is); (case e0t6 => first | rfl | decide +kernel); (case e0s7 => k_is); (case e0t7 => first | rfl | decide +kernel); (case e0s8 => k_is); (case e0t8 => first | rfl | decide +kernel); (case e0s9 => k_is); (case e0t9 => first | rfl | decide +kernel); (case e0s10 => k_is); (case e0t10 => first | rfl | decide +kernel); (case e0s11 => k_is); (case e0t11 => first | rfl | decide +kernel); (case e0s12 => k_is); (case e0t12 => first | rfl | decide +kernel); (case e0s13 => k_is); (case e0t13 => first | rfl | decide +kernel); (case e1a => k_is); (case e1b => k_is); (case e1c => k_is); (case e1d => k_is); (case e1e => k_is); (case e1f => k_is); (case e1g => k_is); (case e1h => k_is); (case e1i => k_is); (case e1j => k_is); (case e1k => k_is); (case e1n0 => k_is); (case e1s0 => k_is); (case e1t0 => first | rfl | decide +kernel); (case e1s1 => k_is); (case e1t1 => first | rfl | decide +kernel); (case e1s2 => k_is); (case e1t2 => first | rfl | decide +kernel); (case e1s3 => k_is); (case e1t3 => first | rfl | decide +kernel); (case e1s4 => k_is); (case e1t4 => first | rfl | decide +kernel); (case e1s5 => k_is); (case e1t5 => first | rfl | decide +kernel); (case e1s6 => k_is); (case e1t6 => first | rfl | decide +kernel); (case e1s7 => k_is); (case e1t7 => first | rfl | decide +kernel); (case e1s8 => k_is); (case e1t8 => first | rfl | decide +kernel); (case e1s9 => k_is); (case e1t9 => first | rfl | decide +kernel); (case e1s10 => k_is); (case e1t10 => first | rfl | decide +kernel); (case e1s11 => k_is); (case e1t11 => first | rfl | decide +kernel); (case e1s12 => k_is); (case e1t12 => first | rfl | decide +kernel); (case e1s13 => k_is); (case e1t13 => first | rfl | decide +kernel); (case e2a => k_is); (case e2b => k_is); (case e2c => k_is); (case e2d => k_is); (case e2e => k_is); (case e2f => k_is); (case e2g => k_is); (case e2h => k_is); (case e2i => k_is); (case e2j => k_is); (case e2k => k_is); (case e2n0 => k_is); (case e2n1 => k_is); (case e2s0 => k_is); (case e2t0 => first | rfl | decide +kernel); (case e2s1 => k_is); (case e2t1 => first | rfl | decide +kernel); (case e2s2 => k_is); (case e2t2 => first | rfl | decide +kernel); (case e2s3 => k_is); (case e2t3 => first | rfl | decide +kernel); (case e2s4 => k_is); (case e2t4 => first | rfl | decide +kernel); (case e2s5 => k_is); (case e2t5 => first | rfl | decide +kernel); (case e2s6 => k_is); (case e2t6 => first | rfl | decide +kernel); (case e2s7 => k_is); (case e2t7 => first | rfl | decide +kernel); (case e2s8 => k_is); (case e2t8 => first | rfl | decide +kernel); (case e2s9 => k_is); (case e2t9 => first | rfl | decide +kernel); (case e2s10 => k_is); (case e2t10 => first | rfl | decide +kernel); (case e2s11 => k_is); (case e2t11 => first | rfl | decide +kernel); (case e2s12 => k_is); (case e2t12 => first | rfl | decide +kernel); (case e2s13 => k_is); (case e2t13 => first | rfl | decide +kernel))
    case q_d_is_whole => (refine' DL.DefAt.mk ?a ?l ?c ?k; (case a => k_is); (case l => k_is); (case c => k_is); (case k => k_is))
    case q_d_is_from => (refine' DL.DefAt.mk ?a ?l ?c ?k; (case a => k_is); (case l => k_is); (case c => k_is); (case k => k_is))
    case q_d_ground_good => (refine' DL.DefAt.mk ?a ?l ?c ?k; (case a => k_is); (case l => k_is); (case c => k_is); (case k => k_is))
    case q_d_set_good => (refine' DL.DefAt.mk ?a ?l ?c ?k; (case a => k_is); (case l => k_is); (case c => k_is); (case k => k_is))
    case q_d_first_flaw => (refine' DL.DefAt.mk ?a ?l ?c ?k; (case a => k_is); (case l => k_is); (case c => k_is); (case k => k_is))
    case q_d_need_ground => (refine' DL.DefAt.mk ?a ?l ?c ?k; (case a => k_is); (case l => k_is); (case c => k_is); (case k => k_is))
    case q_d_need_family => (refine' DL.DefAt.mk ?a ?l ?c ?k; (case a => k_is); (case l => k_is); (case c => k_is); (case k => k_is))
    case q_d_need_few => (refine' DL.DefAt.mk ?a ?l ?c ?k; (case a => k_is); (case l => k_is); (case c => k_is); (case k => k_is))
    case q_d_unlike => (refine' DL.DefAt.mk ?a ?l ?c ?k; (case a => k_is); (case l => k_is); (case c => k_is); (case k => k_is))
    case q_d_parted_ways => (refine' DL.DefAt.mk ?a ?l ?c ?k; (case a => k_is); (case l => k_is); (case c => k_is); (case k => k_is))
    case q_d_own => (refine' DL.DefAt.mk ?a ?l ?c ?k; (case a => k_is); (case l => k_is); (case c => k_is); (case k => k_is))
    case q_d_rank => (refine' DL.DefAt.mk ?a ?l ?c ?k; (case a => k_is); (case l => k_is); (case c => k_is); (case k => k_is))
    case q_d_none_sum => (refine' DL.DefAt.mk ?a ?l ?c ?k; (case a => k_is); (case l => k_is); (case c => k_is); (case k => k_is))
    case q_d__law_cell_at => (refine' DL.DefAt.mk ?a ?l ?c ?k; (case a => k_is); (case l => k_is); (case c => k_is); (case k => k_is))
    case q_d__law_same => (refine' DL.DefAt.mk ?a ?l ?c ?k; (case a => k_is); (case l => k_is); (case c => k_is); (case k => k_is))
    case q_d__law_stir => (refine' DL.DefAt.mk ?a ?l ?c ?k; (case a => k_is); (case l => k_is); (case c => k_is); (case k => k_is))
    case q_d__law_sets => (refine' DL.DefAt.mk ?a ?l ?c ?k; (case a => k_is); (case l => k_is); (case c => k_is); (case k => k_is))
    case q_d__law_family_by => (refine' DL.DefAt.mk ?a ?l ?c ?k; (case a => k_is); (case l => k_is); (case c => k_is); (case k => k_is))
    case q_d__law_unlike => (refine' DL.DefAt.mk ?a ?l ?c ?k; (case a => k_is); (case l => k_is); (case c => k_is); (case k => k_is))
    case q_d__law_total => (refine' DL.DefAt.mk ?a ?l ?c ?k; (case a => k_is); (case l => k_is); (case c => k_is); (case k => k_is))
    case q_d__law_first_none => (refine' DL.DefAt.mk ?a ?l ?c ?k; (case a => k_is); (case l => k_is); (case c => k_is); (case k => k_is))
    case q_d__law_came => (refine' DL.DefAt.mk ?a ?l ?c ?k; (case a => k_is); (case l => k_is); (case c => k_is); (case k => k_is))
    case q_d_law => (refine' DL.DefAt.mk ?a ?l ?c ?k; (case a => k_is); (case l => k_is); (case c => k_is); (case k => k_is))
    case q_c_NoGround => (refine' DL.ClsAt0.mk ?a ?xq ?k ?b ?t; (case a => k_is); (case xq => k_exc); (case k => k_is); (case b => k_is); (case t => k_is))
    case q_c_NoFamily => (refine' DL.ClsAtF.mk ?a ?l ?r ?sa ?ex ?ty ?kp ?ic ?ti ?no ?li ?ci ?ki; (case a => k_is); (case l => k_is); (case r => decide +kernel); (case sa => k_is); (case ex => k_is); (case ty => k_is); (case kp => k_is); (case ic => k_is); (case ti => k_is); (case no => (refine' DL.noF.c ?_ (DL.noF.n); all_goals k_is)); (case li => k_is); (case ci => k_is); (case ki => k_is))
    case q_c_TooGreat => (refine' DL.ClsAtF.mk ?a ?l ?r ?sa ?ex ?ty ?kp ?ic ?ti ?no ?li ?ci ?ki; (case a => k_is); (case l => k_is); (case r => decide +kernel); (case sa => k_is); (case ex => k_is); (case ty => k_is); (case kp => k_is); (case ic => k_is); (case ti => k_is); (case no => (refine' DL.noF.c ?_ (DL.noF.c ?_ (DL.noF.n)); all_goals k_is)); (case li => k_is); (case ci => k_is); (case ki => k_is))
    case q_g_MOST_POINTS => (refine' DL.intAt ?a; (case a => k_is))
    case q_g_MOST_GONE_THROUGH => (refine' DL.intAt ?a; (case a => k_is))
    case q_nl => first | k_is | decide +kernel | rfl
    case q_zz => (refine' DL.nsNone.c ?_ (DL.nsNone.c ?_ (DL.nsNone.c ?_ (DL.nsNone.c ?_ (DL.nsNone.c ?_ (DL.nsNone.c ?_ (DL.nsNone.c ?_ (DL.nsNone.c ?_ (DL.nsNone.c ?_ (DL.nsNone.c ?_ (DL.nsNone.c ?_ (DL.nsNone.c ?_ (DL.nsNone.c ?_ (DL.nsNone.c ?_ (DL.nsNone.c ?_ (DL.nsNone.c ?_ (DL.nsNone.c ?_ (DL.nsNone.c ?_ (DL.nsNone.c ?_ (DL.nsNone.c ?_ (DL.nsNone.n)))))))))))))))))))); all_goals k_is)
#print axioms PySem.Challenge.cw_meetsets_k66_sums_to_none_holds
