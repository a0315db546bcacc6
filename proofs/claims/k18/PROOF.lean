import PyProof.Rows.All
import Wide.All
import OpenK.AllK
import Wide.FinOn
import HandS.ForMost
import HandS.Lambda
import HandS.Flow
import HandS.TryMany
import HandS.IsInst
import HandS.Wide
import HandS.WordsExc
import HandS.ExcOwn
import HandS.RaiseMore
import KE.SortData
import HandS.TupAny
import HandS.Style
import HandS.TupMul
import HandS.WideBits
import HandS.NoneIn
import HandS.Walk
import HandS.Zip
import HandS.Star
import KE.GoesEnumKw
import HandS.SortKw
import HandS.Conv
import KE.DataMinMax
import PyProof.MinMaxWalk
import PyProof.ReprRoads
import KE.GoesComp
import HandS.DictComp
import KE.KDictZip
import HandS.Zip0
import HandS.Keys
import HandS.CallLocal
import HandS.ExcField
import HandS.ExcIs
import KE.KExcSuper
import KE.KSuper
import HandS.Dict
import HandS.HeadHook4
import HandS.HeadWalk
import KE.KExcInit
import PyProof.ExcBaseAll.IndexError
import PyProof.ExcBaseAll.OverflowError
import PyProof.ExcBaseAll.ArithmeticError
import PyProof.ExcBaseAll.RuntimeError
import PyProof.ExcBaseAll.LookupError
import PyProof.ExcBaseAll.TypeError
import PyProof.ExcBaseAll.ValueError
import PyProof.InstStoreFacts
import HandS.EndBits
import HandS.EndTab
import HandS.Head0
import HandS.Head1
import HandS.Head2
import HandS.HeadEnd
import PySem.Challenge.RW_wholecorners_k18_errors_of_maps
set_option Elab.async false
set_option linter.all false
set_option maxRecDepth 100000
/-! R0: the pure evaluator: values, outcomes, operations, the terms (E, S), what they come to. -/
namespace Rf
open PySem

/-- what a name or a place in a tuple may hold: data, a def of the text, the dice, a tuple that holds what is no data -/
inductive Val where
  | p (d : PyData)
  | fn (i : Nat)
  | dice
  | mt (xs : List Val)
/-- what an expression comes to: a value, or a list object that nobody else holds (fresh), or that a name here owns (not fresh) -/
inductive Res where
  | v (x : Val)
  | l (fresh : Bool) (xs : List PyData)
/-- what a name holds: a value, a list of its own, or what a lambda made that this def got -/
inductive Slot where
  | v (x : Val)
  | own (xs : List PyData)
  | thk
abbrev Sl := List (Option Slot)

/-- outcomes: a value, an error of the class c that keeps k, a draw, or nothing is known -/
inductive M (α : Type) where
  | ret (a : α)
  | exc (c : Nat) (k : Option PyData)
  | roll (n : Int) (k : Int → M α)
  | any (p : Int → Bool) (k : Int → M α)
  | stuck
namespace M
def bind {α β : Type} : M α → (α → M β) → M β
  | .ret a, f => f a
  | .exc c k, _ => .exc c k
  | .roll n k, f => .roll n fun i => (k i).bind f
  | .any p k, f => .any p fun i => (k i).bind f
  | .stuck, _ => .stuck
def wp {α : Type} : M α → (α → Prop) → (Nat → Option PyData → Prop) → Prop
  | .ret a, Q, _ => Q a
  | .exc c k, _, E => E c k
  | .roll n k, Q, E => ∀ i, 0 ≤ i → i < n → (k i).wp Q E
  | .any p k, Q, E => ∀ i, p i = true → (k i).wp Q E
  | .stuck, _, _ => False
theorem wp_bind {α β : Type} : ∀ (m : M α) (f : α → M β) (Q : β → Prop) (E : Nat → Option PyData → Prop), (m.bind f).wp Q E ↔ m.wp (fun a => (f a).wp Q E) E
  | .ret _, _, _, _ => Iff.rfl
  | .exc _ _, _, _, _ => Iff.rfl
  | .roll n k, f, Q, E => forall_congr' fun i => imp_congr_right fun _ => imp_congr_right fun _ => wp_bind (k i) f Q E
  | .any p k, f, Q, E => forall_congr' fun i => imp_congr_right fun _ => wp_bind (k i) f Q E
  | .stuck, _, _, _ => Iff.rfl
theorem wp_mono {α : Type} : ∀ (m : M α) {Q Q' : α → Prop} {E E' : Nat → Option PyData → Prop}, m.wp Q E → (∀ a, Q a → Q' a) → (∀ c k, E c k → E' c k) → m.wp Q' E'
  | .ret _, _, _, _, _, h, f, _ => f _ h
  | .exc _ _, _, _, _, _, h, _, g => g _ _ h
  | .roll n k, _, _, _, _, h, f, g => fun i a b => wp_mono (k i) (h i a b) f g
  | .any p k, _, _, _, _, h, f, g => fun i a => wp_mono (k i) (h i a) f g
  | .stuck, _, _, _, _, h, _, _ => h
theorem bind_ret {α : Type} : ∀ (m : M α), m.bind .ret = m
  | .ret _ => rfl
  | .exc _ _ => rfl
  | .roll n k => congrArg (M.roll n) (funext fun i => bind_ret (k i))
  | .any p k => congrArg (M.any p) (funext fun i => bind_ret (k i))
  | .stuck => rfl
theorem bind_bind {α β γ : Type} : ∀ (m : M α) (f : α → M β) (g : β → M γ), (m.bind f).bind g = m.bind fun a => (f a).bind g
  | .ret _, _, _ => rfl
  | .exc _ _, _, _ => rfl
  | .roll n k, f, g => congrArg (M.roll n) (funext fun i => bind_bind (k i) f g)
  | .any p k, f, g => congrArg (M.any p) (funext fun i => bind_bind (k i) f g)
  | .stuck, _, _ => rfl
/-- an error may be met -/
def handle {α β : Type} : M α → (α → M β) → (Nat → Option PyData → M β) → M β
  | .ret a, f, _ => f a
  | .exc c k, _, g => g c k
  | .roll n k, f, g => .roll n fun i => (k i).handle f g
  | .any p k, f, g => .any p fun i => (k i).handle f g
  | .stuck, _, _ => .stuck
theorem wp_handle {α β : Type} : ∀ (m : M α) (f : α → M β) (g : Nat → Option PyData → M β) (Q : β → Prop) (E : Nat → Option PyData → Prop), (m.handle f g).wp Q E ↔ m.wp (fun a => (f a).wp Q E) (fun c k => (g c k).wp Q E)
  | .ret _, _, _, _, _ => Iff.rfl
  | .exc _ _, _, _, _, _ => Iff.rfl
  | .roll n k, f, g, Q, E => forall_congr' fun i => imp_congr_right fun _ => imp_congr_right fun _ => wp_handle (k i) f g Q E
  | .any p k, f, g, Q, E => forall_congr' fun i => imp_congr_right fun _ => wp_handle (k i) f g Q E
  | .stuck, _, _, _, _ => Iff.rfl
/-- no error may leave -/
def calm {α : Type} : M α → M α
  | .ret a => .ret a
  | .exc _ _ => .stuck
  | .roll n k => .roll n fun i => (k i).calm
  | .any p k => .any p fun i => (k i).calm
  | .stuck => .stuck
theorem wp_calm {α : Type} : ∀ (m : M α) (Q : α → Prop) (E : Nat → Option PyData → Prop), m.calm.wp Q E → m.wp Q (fun _ _ => False)
  | .ret _, _, _, h => h
  | .exc _ _, _, _, h => h
  | .roll n k, Q, E, h => fun i a b => wp_calm (k i) Q E (h i a b)
  | .any p k, Q, E, h => fun i a => wp_calm (k i) Q E (h i a)
  | .stuck, _, _, h => h
/-- for each of a list, in turn -/
def each {α β : Type} (f : α → M β) : List α → M (List β)
  | [] => .ret []
  | a :: r => (f a).bind fun b => (each f r).bind fun bs => .ret (b :: bs)
def ofOpt {α : Type} : Option α → M α
  | some a => .ret a
  | none => .stuck
/-- where a condition holds -/
def guard {α : Type} (b : Bool) (m : M α) : M α := cond b m .stuck
end M

/-! ### values, looked at -/
def Res.toVal : Res → Option Val
  | .v x => some x
  | .l true xs => some (.p (.list xs))
  | .l false _ => none
def Val.data : Val → Option PyData
  | .p d => some d
  | _ => none
def dataAll : List Val → Option (List PyData)
  | [] => some []
  | .p d :: r => (dataAll r).map (d :: ·)
  | _ :: _ => none
def mkTup (xs : List Val) : Val := match dataAll xs with
  | some ds => .p (.tuple ds)
  | none => .mt xs
/-- as data, to be looked at -/
def Res.data : Res → Option PyData
  | .v (.p d) => some d
  | .l _ xs => some (.list xs)
  | _ => none
/-- what stands in a list or a tuple -/
def Res.items : Res → Option (List Val)
  | .v (.p (.list xs)) => some (xs.map .p)
  | .v (.p (.tuple xs)) => some (xs.map .p)
  | .v (.mt xs) => some xs
  | .l _ xs => some (xs.map .p)
  | _ => none
/-- a list that a name owns -/
def Res.mine : Res → Bool
  | .l false _ => true
  | _ => false
def Res.int : Res → Option Int
  | .v (.p (.int i)) => some i
  | _ => none
def Res.bool : Res → Option Bool
  | .v (.p (.bool b)) => some b
  | _ => none
abbrev rI (i : Int) : Res := .v (.p (.int i))
abbrev rB (b : Bool) : Res := .v (.p (.bool b))
def Res.truth : Res → Option Bool
  | .v (.p .none) => some false
  | .v (.p (.bool b)) => some b
  | .v (.p (.int i)) => some (i != 0)
  | .v (.p (.str x)) => if x.length ≤ 16777216 then some ((x.length : Int) != 0) else none
  | .v (.p (.list xs)) => some (!xs.isEmpty)
  | .v (.p (.tuple xs)) => some (!xs.isEmpty)
  | .v (.mt xs) => some (!xs.isEmpty)
  | .l _ xs => some (!xs.isEmpty)
  | _ => none

/-! ### operations -/
inductive Bop where
  | add | sub | mul | fdiv | mod | pow
  deriving DecidableEq
inductive Cop where
  | eq | ne | lt | le | gt | ge | inn | nin | isb | isnb
  deriving DecidableEq
def sizeL : Nat := 16777216
def intOp : Bop → Int → Int → M Int
  | .add, i, j => .ret (i + j)
  | .sub, i, j => .ret (i - j)
  | .mul, i, j => .guard (decide (i.natAbs.log2 + j.natAbs.log2 < 1000000) || decide (i.natAbs < 18446744073709551616)) (.ret (i * j))
  | .fdiv, i, j => .guard (j != 0 && (decide (j.natAbs < 1073741824) || (decide (0 < j) && decide (j.natAbs.log2 < 9000)))) (.ret (i.fdiv j))
  | .mod, i, j => .guard (j != 0) (.ret (i.fmod j))
  | .pow, i, j => .guard (decide (0 ≤ j) && decide (j ≤ 1000000) && decide (i.natAbs < 18446744073709551616)) (.ret (i ^ j.toNat))
/-- two lists, two tuples, two texts, a list so often, joined -/
def seqOp : Bop → Res → Res → M Res
  | .add, .l _ xs, .l _ ys => .guard (decide (xs.length + ys.length ≤ 16777216)) (.ret (.l true (xs ++ ys)))
  | .add, .v (.p (.tuple xs)), .v (.p (.tuple ys)) => .guard (decide (xs.length + ys.length ≤ 16777216)) (.ret (.v (.p (.tuple (xs ++ ys)))))
  | .add, .v (.mt xs), .v (.mt ys) => .guard (decide (xs.length + ys.length ≤ 16777216)) (.ret (.v (mkTup (xs ++ ys))))
  | .add, .v (.p (.tuple xs)), .v (.mt ys) => .guard (decide (xs.length + ys.length ≤ 16777216)) (.ret (.v (mkTup (xs.map .p ++ ys))))
  | .add, .v (.mt xs), .v (.p (.tuple ys)) => .guard (decide (xs.length + ys.length ≤ 16777216)) (.ret (.v (mkTup (xs ++ ys.map .p))))
  | .add, .v (.p (.str x)), .v (.p (.str y)) => .guard (decide (x.length + y.length ≤ 16777216)) (.ret (.v (.p (.str (x ++ y)))))
  | .mul, .l _ xs, .v (.p (.int k)) => .guard (decide (-(2 ^ 63) ≤ k) && decide (k < 2 ^ 63) && decide (xs.length * k.toNat ≤ 16777216)) (.ret (.l true (List.replicate k.toNat xs).flatten))
  | .mul, .v (.p (.tuple xs)), .v (.p (.int k)) => .guard (!xs.isEmpty && decide (2 ≤ k) && decide (k ≤ 1000) && decide (xs.length ≤ 1000)) (.ret (.v (.p (.tuple (List.replicate k.toNat xs).flatten))))
  | _, _, _ => .stuck
def binR (o : Bop) (a b : Res) : M Res := match a.int, b.int with
  | some i, some j => (intOp o i j).bind fun k => .ret (rI k)
  | _, _ => seqOp o a b
def shapedD (d : PyData) : Bool := d.canLay0 && decide (d.depth ≤ 64)
def cmpI : Cop → Int → Int → Bool
  | .eq, i, j => decide (i = j)
  | .ne, i, j => !decide (i = j)
  | .lt, i, j => decide (i < j)
  | .le, i, j => decide (i ≤ j)
  | .gt, i, j => decide (j < i)
  | .ge, i, j => decide (j ≤ i)
  | .inn, _, _ => false
  | .nin, _, _ => false
  | .isb, _, _ => false
  | .isnb, _, _ => false
def Cop.mem : Cop → Bool
  | .inn => true
  | .nin => true
  | .isb => true
  | .isnb => true
  | _ => false
def PyData.its : PyData → Option (List PyData)
  | .list xs => some xs
  | .tuple xs => some xs
  | _ => none
def cmpD : Cop → PyData → PyData → M Bool
  | .eq, d, e => .guard (shapedD d && shapedD e) (.ret (PyData.eqv d e))
  | .ne, d, e => .guard (shapedD d && shapedD e) (.ret (!PyData.eqv d e))
  | .lt, d, e => .guard (PySem.W.alike d e && (match d with | .tuple _ => true | .list _ => true | _ => false) && decide (d.depth ≤ 64)) (.ret (PySem.W.dataLt d e))
  | .inn, d, e => (M.ofOpt (PyData.its e)).bind fun ys => .guard (shapedD d && PyData.canLayAll0 ys) (.ret (ys.any fun y => PyData.eqv y d))
  | .nin, d, e => (M.ofOpt (PyData.its e)).bind fun ys => .guard (shapedD d && PyData.canLayAll0 ys) (.ret (!ys.any fun y => PyData.eqv y d))
  | .isb, .bool a, .bool b => .ret (a == b)
  | .isnb, .bool a, .bool b => .ret (!(a == b))
  | _, _, _ => .stuck
def cmpR (o : Cop) (a b : Res) : M Bool := match a.int, b.int with
  | some i, some j => .guard (!o.mem) (.ret (cmpI o i j))
  | _, _ => match a.data, b.data with
    | some d, some e => cmpD o d e
    | _, _ => .stuck
def idxR (a b : Res) : M Res := match a.items, b.int with
  | some xs, some i => (M.ofOpt (L2.atI xs i)).bind fun x => .ret (.v x)
  | _, _ => .stuck
def cutL {α : Type} (xs : List α) (lo hi : Option Int) : List α :=
  (xs.drop (HT.sIx xs.length 0 lo)).take (HT.sIx xs.length xs.length hi - HT.sIx xs.length 0 lo)
def slcR (a : Res) (lo hi : Option Int) : M Res := match a with
  | .v (.p (.tuple xs)) => .ret (.v (.p (.tuple (cutL xs lo hi))))
  | .v (.p (.list xs)) => .ret (.l true (cutL xs lo hi))
  | .l _ xs => .ret (.l true (cutL xs lo hi))
  | _ => .stuck
inductive Ty where
  | int | bool | tup | lst | str | dct
  deriving DecidableEq
def isTy : Ty → Val → Option Bool
  | .int, .p (.int _) => some true
  | .int, .p (.bool _) => some true
  | .bool, .p (.bool _) => some true
  | .tup, .p (.tuple _) => some true
  | .tup, .mt _ => some true
  | .lst, .p (.list _) => some true
  | .str, .p (.str _) => some true
  | .dct, .p (.dict _) => some true
  | _, .p _ => some false
  | _, .mt _ => some false
  | _, _ => none
def Res.isTy (t : Ty) : Res → Option Bool
  | .v x => Rf.isTy t x
  | .l _ _ => some (t == .lst)
def intsOf : List PyData → Option (List Int)
  | [] => some []
  | .int i :: r => (intsOf r).map (i :: ·)
  | _ :: _ => none
def boolsOf : List PyData → Option (List Bool)
  | [] => some []
  | .bool i :: r => (boolsOf r).map (i :: ·)
  | _ :: _ => none
def Res.list : Res → Option (List PyData)
  | .v (.p (.list xs)) => some xs
  | .l _ xs => some xs
  | _ => none
def Res.seq : Res → Option (List PyData)
  | .v (.p (.list xs)) => some xs
  | .v (.p (.tuple xs)) => some xs
  | .l _ xs => some xs
  | _ => none
def leastI (x : Int) : List Int → Int
  | [] => x
  | y :: r => leastI (if y < x then y else x) r
def greatestI (x : Int) : List Int → Int
  | [] => x
  | y :: r => greatestI (if y > x then y else x) r
def isSeqD : PyData → Bool
  | .tuple _ => true
  | .list _ => true
  | _ => false
def alike2 (d e : PyData) : Bool := PySem.W.alike d d && PySem.W.alike d e && PySem.W.alike e d && PySem.W.alike e e && isSeqD d && isSeqD e && decide (d.depth ≤ 64) && decide (e.depth ≤ 64)
/-- the greater one, the lesser one -/
def twoD (mx : Bool) : Res → Res → M Res
  | .v (.p d), .v (.p e) => .guard (alike2 d e) (.ret (.v (.p (cond (cond mx (PySem.W.dataLt d e) (PySem.W.dataLt e d)) e d))))
  | _, _ => .stuck
abbrev pE (p : Int × Int) : PyData := .tuple [.int p.1, .int p.2]
def ptV : Val → Option (Int × Int)
  | .p (.tuple [.int x, .int y]) => some (x, y)
  | _ => none
def ptsV : List Val → Option (List (Int × Int))
  | [] => some []
  | x :: r => (ptV x).bind fun p => (ptsV r).map (p :: ·)
def leP (p q : Int × Int) : Bool := decide (p.1 < q.1) || (decide (p.1 = q.1) && decide (p.2 ≤ q.2))
def eqP (p q : Int × Int) : Bool := decide (p.1 = q.1) && decide (p.2 = q.2)
def insP (p : Int × Int) : List (Int × Int) → List (Int × Int)
  | [] => [p]
  | q :: r => cond (leP p q) (p :: q :: r) (q :: insP p r)
def isortP : List (Int × Int) → List (Int × Int)
  | [] => []
  | p :: r => insP p (isortP r)
def uniqG (acc : List (Int × Int)) : List (Int × Int) → List (Int × Int)
  | [] => acc
  | p :: r => uniqG (cond (acc.any (eqP p)) acc (acc ++ [p])) r
def uniqP (ps : List (Int × Int)) : List (Int × Int) := uniqG [] ps
def sortKR (uq : Bool) (r : Res) : M Res := (M.ofOpt (r.items.bind ptsV)).bind fun ps => .guard (decide (ps.length ≤ 16777216)) (.ret (.l true ((isortP (cond uq (uniqP ps) ps)).map pE)))
/-- the greatest, the least of a list of ints -/
def topI (b : Bool) (n : Int) (r : List Int) : Int := r.foldl (fun m y => cond (cond b (decide (m < y)) (decide (y < m))) y m) n
def endR (b : Bool) : List Int → M Res
  | [] => .stuck
  | n :: r => .ret (rI (topI b n r))
/-- by any order; lists of ints -/
def insG {α : Type} (le : α → α → Bool) (p : α) : List α → List α
  | [] => [p]
  | q :: r => cond (le p q) (p :: q :: r) (q :: insG le p r)
def isortG {α : Type} (le : α → α → Bool) : List α → List α
  | [] => []
  | p :: r => insG le p (isortG le r)
def leqL : List Int → List Int → Bool
  | [], _ => true
  | _ :: _, [] => false
  | a :: r, b :: s => cond (decide (a < b)) true (cond (decide (a = b)) (leqL r s) false)
def tupI (l : List Int) : PyData := .tuple (l.map .int)
def rowV : PyData → Option (List Int)
  | .tuple (d :: ds) => intsOf (d :: ds)
  | _ => none
def rowsV : List PyData → Option (List (List Int))
  | [] => some []
  | d :: ds => (rowV d).bind fun l => (rowsV ds).map (l :: ·)
def sortLR (r : Res) : M Res := (M.ofOpt (r.list.bind rowsV)).bind fun ls => .guard (decide (ls.length ≤ 16777216)) (.ret (.l true ((isortG leqL ls).map tupI)))
/-- list(zip(x, y)) of two tuples -/
def lzipR : Res → Res → M Res
  | .v (.p (.tuple as)), .v (.p (.tuple bs)) => .ret (.l true ((as.zip bs).map fun d => .tuple [d.1, d.2]))
  | _, _ => .stuck
/-- no dict but an empty one, alone -/
def reprOk (d : PyData) : Bool := !d.hasDict || (match d with | .dict [] => true | _ => false)
/-- built-in functions -/
inductive Blt where
  | len | abs | max2 | min2 | max1 | min1 | int1 | bool1 | sum | all | any | tuple | list | repr | str1 | sorted | rev | srtK | lzip | isi (t : Ty)
  deriving DecidableEq
def blt : Blt → List Res → M Res
  | .len, [.v (.p (.str x))] => .guard (decide (x.length ≤ 16777216)) (.ret (rI x.length))
  | .len, [a] => (M.ofOpt a.items).bind fun xs => .ret (rI xs.length)
  | .abs, [a] => (M.ofOpt a.int).bind fun i => .ret (rI (if i < 0 then -i else i))
  | .max2, [a, b] => match a.int, b.int with
    | some i, some j => .ret (rI (if j > i then j else i))
    | _, _ => twoD true a b
  | .min2, [a, b] => match a.int, b.int with
    | some i, some j => .ret (rI (if j < i then j else i))
    | _, _ => twoD false a b
  | .int1, [.v (.p (.int i))] => .ret (rI i)
  | .int1, [.v (.p (.bool b))] => .ret (rI (if b then 1 else 0))
  | .sum, [a] => (M.ofOpt (a.list.bind intsOf)).bind fun ns => .ret (rI ns.sum)
  | .all, [a] => (M.ofOpt (a.list.bind boolsOf)).bind fun bs => .ret (rB (bs.all id))
  | .any, [a] => (M.ofOpt (a.list.bind boolsOf)).bind fun bs => .ret (rB (bs.any id))
  | .tuple, [a] => (M.ofOpt a.seq).bind fun xs => .ret (.v (.p (.tuple xs)))
  | .list, [a] => (M.ofOpt a.seq).bind fun xs => .ret (.l true xs)
  | .repr, [a] => (M.ofOpt a.data).bind fun d => .guard (d.showable && decide (d.depth ≤ 64) && decide (d.shown.length ≤ 16777216) && reprOk d) (.ret (.v (.p (.str d.shown))))
  | .rev, [.v (.p (.tuple xs))] => .ret (.v (.p (.tuple xs.reverse)))
  | .rev, [a] => (M.ofOpt a.list).bind fun xs => .ret (.l true xs.reverse)
  | .max1, [a] => (M.ofOpt (a.list.bind intsOf)).bind (endR true)
  | .min1, [a] => (M.ofOpt (a.list.bind intsOf)).bind (endR false)
  | .sorted, [a] => sortLR a
  | .srtK, [a] => sortKR true a
  | .lzip, [a, b] => lzipR a b
  | .isi t, [a] => (M.ofOpt (a.isTy t)).bind fun b => .ret (rB b)
  | _, _ => .stuck

/-! ### terms -/
/-- a part of a target: a name, or names of a tuple -/
inductive GT where
  | n (i : Nat)
  | ns (is : List Nat)
mutual
inductive E where
  | var (i : Nat)
  | lit (d : PyData)
  | cst (k : Nat)
  | fnv (k : Nat)
  | tup (es : EL)
  | lst (es : EL)
  | bin (o : Bop) (a b : E)
  | neg (a : E)
  | not (a : E)
  | and (a b : E)
  | or (a b : E)
  | cmp (o : Cop) (a b : E)
  | cmp2 (o o' : Cop) (a b c : E)
  | isn (neg : Bool) (a : E)
  | ife (c a b : E)
  | call (f : Nat) (es : EL)
  | callv (i : Nat) (es : EL)
  | thunk (f : Nat) (b : E)
  | callT (i : Nat)
  | blt (b : Blt) (es : EL)
  | idx (a b : E)
  | slc (a : E) (lo hi : O)
  | lc (e : E) (g : G) (it : I) (c : O)
  | err (i : Nat)
  | dget (i j : Nat)
  | lrng1 (a : E)
  | lrng2 (a b : E)
  | bad
inductive EL where
  | nil
  | cons (e : E) (es : EL)
  | star (e : E) (es : EL)
inductive O where
  | none
  | some (e : E)
/-- what a for walks -/
inductive I where
  | seq (e : E)
  | rng1 (a : E)
  | rng2 (a b : E)
  | enum (e : E)
  | zip (a b : E)
  | enumS (e : E) (k : Int)
  | rng3 (a b c : E)
/-- a target: a name, or names of a pair or more -/
inductive G where
  | name (i : Nat)
  | names (is : List Nat)
  | nest (ts : List GT)
end
mutual
inductive S where
  | set (i : Nat) (e : E)
  | unp (is : List Nat) (e : E)
  | par (is : List Nat) (es : EL)
  | aug (i : Nat) (o : Bop) (e : E)
  | app (i : Nat) (e : E)
  | ext (i : Nat) (e : E)
  | pop (i : Nat)
  | ins (i : Nat) (a e : E)
  | unpg (ts : List GT) (e : E)
  | dset (i j : Nat) (e : E)
  | iff (c : E) (a b : SL)
  | whl (c : E) (b : SL)
  | for_ (g : G) (it : I) (b : SL)
  | ret (e : E)
  | retN
  | expr (e : E)
  | raise0 (c : Nat)
  | raise1 (c : Nat) (e : E)
  | tryc (rt : Bool) (e : E) (hs : HL)
  | brk
  | cont
  | pass
  | bad
inductive SL where
  | nil
  | cons (s : S) (r : SL)
  | frz (i : Nat) (r : SL)
  | kill (i : Nat) (r : SL)
/-- except clauses: the class, the slot of its name, what is handed back -/
inductive HL where
  | nil
  | cons (c : Nat) (nm : Option Nat) (e : E) (r : HL)
end

/-- what stands around a def's body -/
structure Ctx where
  cst : Nat → PyData
  call : Nat → List Val → M Res
  callT : Nat → M Res → M Res
  thk : M Res
  err : M Res
  sub : Nat → Nat → Bool
  fuel : Nat
  wrap : E → (Sl → M Res) → Sl → M Res
/-- a lambda's call, as it is -/
def stdW : E → (Sl → M Res) → Sl → M Res := fun _ F σ => F σ

def setSlots : List Nat → List Val → Sl → Option Sl
  | [], [], σ => some σ
  | i :: is, x :: xs, σ => setSlots is xs (σ.set i (some (.v x)))
  | _, _, _ => none
def nestS : List GT → List Nat
  | [] => []
  | .n i :: r => i :: nestS r
  | .ns is :: r => is ++ nestS r
def flatT : List GT → List PyData → Option (List PyData)
  | [], [] => some []
  | .n _ :: r, d :: ds => (flatT r ds).map (d :: ·)
  | .ns is :: r, .tuple us :: ds => cond (us.length == is.length) ((flatT r ds).map (us ++ ·)) none
  | _, _ => none
def G.slots : G → List Nat
  | .name i => [i]
  | .names is => is
  | .nest ts => nestS ts
def G.put : G → Val → Sl → Option Sl
  | .name i, x, σ => some (σ.set i (some (.v x)))
  | .names is, .p (.tuple xs), σ => setSlots is (xs.map .p) σ
  | .names is, .p (.list xs), σ => setSlots is (xs.map .p) σ
  | .names is, .mt xs, σ => setSlots is xs σ
  | .names _, _, _ => none
  | .nest ts, .p (.tuple xs), σ => (flatT ts xs).bind fun ys => setSlots (nestS ts) (ys.map .p) σ
  | .nest _, _, _ => none
/-- a, a + 1, .. below b, as a list -/
def rgD (a b : Int) : List PyData := (List.range (b - a).toNat).map fun (i : Nat) => .int (a + i)
def rgOkB (a b : Int) : Bool := decide (-(2 ^ 62) ≤ a) && decide (a < 2 ^ 62) && decide (-(2 ^ 62) ≤ b) && decide (b < 2 ^ 62) && decide ((b - a).toNat ≤ 2 ^ 24)
def downL (hi : Int) (n : Nat) : List Val := (List.range n).map fun (i : Nat) => .p (.int (hi + (i : Nat) * (-1)))
def Res.tupD : Res → Option (List PyData)
  | .v (.p (.tuple xs)) => some xs
  | _ => none
def rangeL (lo : Int) (n : Nat) : List Val := (List.range n).map fun (i : Nat) => .p (.int (lo + i))
def pairsL : List Val → List Val → List Val
  | a :: as, b :: bs => mkTup [a, b] :: pairsL as bs
  | _, _ => []

def zipR : Res → Res → M (Bool × List Val)
  | .v (.p (.list as)), .v (.p (.list bs)) => .ret (false, pairsL (as.map .p) (bs.map .p))
  | .v (.p (.tuple as)), .v (.p (.tuple bs)) => .ret (false, pairsL (as.map .p) (bs.map .p))
  | _, _ => .stuck
def varR (σ : Sl) (i : Nat) : M Res := match σ[i]? with
  | some (some (.v x)) => .ret (.v x)
  | some (some (.own xs)) => .ret (.l false xs)
  | _ => .stuck
/-- a value that no name owns -/
def noOwn (m : M Res) : M Res := m.bind fun r => .guard (!r.mine) (.ret r)
def thkAt (m : M Res) (i : Nat) (σ : Sl) : M Res := match σ[i]? with
  | some (some .thk) => m
  | _ => .stuck
def fnAt (σ : Sl) (i : Nat) : M Nat := match σ[i]? with
  | some (some (.v (.fn f))) => .guard (Nat.blt f 1000000) (.ret f)
  | _ => .stuck
/-- a number of the dice: any -/
def dgetM (σ : Sl) (i j : Nat) : M Res := match σ[i]? with
  | some (some (.v .dice)) => .guard (decide (j < 3)) (.any (fun _ => true) fun k => .ret (rI k))
  | _ => .stuck
/-- what is None -/
def isN : Res → Option Bool
  | .v (.p .none) => some true
  | .v (.fn _) => none
  | _ => some false
def isNM (neg : Bool) (r : Res) : M Bool := (M.ofOpt (isN r)).bind fun k => .ret (xor neg k)
def truthM (r : Res) : M Bool := M.ofOpt r.truth
mutual
def evE (C : Ctx) : E → Sl → M Res
  | .var i, σ => varR σ i
  | .lit d, _ => .ret (.v (.p d))
  | .cst k, _ => .ret (.v (.p (C.cst k)))
  | .fnv k, _ => .guard (Nat.blt k 1000000) (.ret (.v (.fn k)))
  | .tup es, σ => (evL C es σ).bind fun xs => .guard (decide (xs.length ≤ 16777216)) (.ret (.v (mkTup xs)))
  | .lst es, σ => (evL C es σ).bind fun xs => .guard (decide (xs.length ≤ 16777216)) ((M.ofOpt (dataAll xs)).bind fun ds => .ret (.l true ds))
  | .bin o a b, σ => (evE C a σ).bind fun x => (evE C b σ).bind fun y => binR o x y
  | .neg a, σ => (evE C a σ).bind fun x => (M.ofOpt x.int).bind fun i => .ret (rI (-i))
  | .not a, σ => (evE C a σ).bind fun x => (M.ofOpt x.truth).bind fun k => .ret (rB (!k))
  | .and a b, σ => (evE C a σ).bind fun x => (M.ofOpt x.bool).bind fun k => cond k (evE C b σ) (.ret (rB false))
  | .or a b, σ => (evE C a σ).bind fun x => (M.ofOpt x.bool).bind fun k => cond k (.ret (rB true)) (evE C b σ)
  | .cmp o a b, σ => (evE C a σ).bind fun x => (evE C b σ).bind fun y => (cmpR o x y).bind fun k => .ret (rB k)
  | .cmp2 o o' a b c, σ => (evE C a σ).bind fun x => (evE C b σ).bind fun y => (cmpR o x y).bind fun k => cond k ((evE C c σ).bind fun z => (cmpR o' y z).bind fun k' => .ret (rB k')) (.ret (rB false))
  | .isn neg a, σ => (evE C a σ).bind fun x => (isNM neg x).bind fun k => .ret (rB k)
  | .ife c a b, σ => (evT C c σ).bind fun k => cond k (evE C a σ) (evE C b σ)
  | .call f es, σ => (evL C es σ).bind fun xs => C.call f xs
  | .callv i es, σ => (fnAt σ i).bind fun f => (evL C es σ).bind fun xs => C.call f xs
  | .thunk f b, σ => C.wrap b (fun σ => C.callT f (noOwn (evE C b σ))) σ
  | .callT i, σ => thkAt C.thk i σ
  | .err i, σ => thkAt C.err i σ
  | .dget i j, σ => dgetM σ i j
  | .lrng1 a, σ => (evE C a σ).bind fun x => (M.ofOpt x.int).bind fun j => .guard (rgOkB 0 j) (.ret (.l true (rgD 0 j)))
  | .lrng2 a b, σ => (evE C a σ).bind fun x => (evE C b σ).bind fun y => (M.ofOpt x.int).bind fun i => (M.ofOpt y.int).bind fun j => .guard (rgOkB i j) (.ret (.l true (rgD i j)))
  | .bad, _ => .stuck
  | .blt b es, σ => (evR C es σ).bind fun xs => Rf.blt b xs
  | .idx a b, σ => (evE C a σ).bind fun x => (evE C b σ).bind fun y => idxR x y
  | .slc a lo hi, σ => (evE C a σ).bind fun x => (evO C lo σ).bind fun l => (evO C hi σ).bind fun h => slcR x l h
  | .lc e g it c, σ => (evI C it σ).bind fun bx => .guard (decide (bx.2.length < 16777216)) ((M.each (fun x => (M.ofOpt (g.put x σ)).bind fun σ' => (evC C c σ').bind fun k => cond k ((evE C e σ').bind fun r => (M.ofOpt (r.toVal.bind Val.data)).bind fun d => .ret [d]) (.ret [])) bx.2).calm.bind fun dss => .ret (.l true dss.flatten))
/-- as a test -/
def evT (C : Ctx) : E → Sl → M Bool
  | .not a, σ => (evT C a σ).bind fun k => .ret (!k)
  | .and a b, σ => (evT C a σ).bind fun k => cond k (evT C b σ) (.ret false)
  | .or a b, σ => (evT C a σ).bind fun k => cond k (.ret true) (evT C b σ)
  | .ife _ _ _, _ => .stuck
  | .var i, σ => (varR σ i).bind truthM
  | .cmp o a b, σ => (evE C a σ).bind fun x => (evE C b σ).bind fun y => cmpR o x y
  | .cmp2 o o' a b c, σ => (evE C a σ).bind fun x => (evE C b σ).bind fun y => (cmpR o x y).bind fun k => cond k ((evE C c σ).bind fun z => cmpR o' y z) (.ret false)
  | .isn neg a, σ => (evE C a σ).bind fun x => isNM neg x
  | .call f es, σ => ((evL C es σ).bind fun xs => C.call f xs).bind truthM
  | .callv i es, σ => ((fnAt σ i).bind fun f => (evL C es σ).bind fun xs => C.call f xs).bind truthM
  | .blt b es, σ => ((evR C es σ).bind fun xs => Rf.blt b xs).bind truthM
  | .idx a b, σ => ((evE C a σ).bind fun x => (evE C b σ).bind fun y => idxR x y).bind truthM
  | _, _ => .stuck
/-- arguments, items: values -/
def evL (C : Ctx) : EL → Sl → M (List Val)
  | .nil, _ => .ret []
  | .cons e es, σ => (evE C e σ).bind fun r => (M.ofOpt r.toVal).bind fun x => (evL C es σ).bind fun xs => .ret (x :: xs)
  | .star e es, σ => (evE C e σ).bind fun r => (M.ofOpt r.items).bind fun ys => (evL C es σ).bind fun xs => .ret (ys ++ xs)
/-- arguments of a built-in function, that only looks -/
def evR (C : Ctx) : EL → Sl → M (List Res)
  | .nil, _ => .ret []
  | .cons e es, σ => (evE C e σ).bind fun r => (evR C es σ).bind fun xs => .ret (r :: xs)
  | .star _ _, _ => .stuck
def evO (C : Ctx) : O → Sl → M (Option Int)
  | .none, _ => .ret none
  | .some e, σ => (evE C e σ).bind fun r => (M.ofOpt r.int).bind fun i => .ret (some i)
def evC (C : Ctx) : O → Sl → M Bool
  | .none, _ => .ret true
  | .some e, σ => evT C e σ
def evI (C : Ctx) : I → Sl → M (Bool × List Val)
  | .seq e, σ => (evE C e σ).bind fun r => (M.ofOpt r.items).bind fun xs => .ret (r.mine, xs)
  | .rng1 a, σ => (evE C a σ).bind fun r => (M.ofOpt r.int).bind fun j => .guard (decide (-(2 ^ 62) ≤ j) && decide (j < 2 ^ 62)) (.ret (false, rangeL 0 j.toNat))
  | .rng2 a b, σ => (evE C a σ).bind fun r => (evE C b σ).bind fun r' => (M.ofOpt r.int).bind fun i => (M.ofOpt r'.int).bind fun j =>
      .guard (decide (-(2 ^ 62) ≤ i) && decide (i < 2 ^ 62) && decide (-(2 ^ 62) ≤ j) && decide (j < 2 ^ 62)) (.ret (false, rangeL i (j - i).toNat))
  | .enum e, σ => (evE C e σ).bind fun r => (M.ofOpt r.list).bind fun xs => .ret (r.mine, pairsL (rangeL 0 xs.length) (xs.map .p))
  | .zip a b, σ => (evE C a σ).bind fun r => (evE C b σ).bind fun r' => zipR r r'
  | .enumS e k, σ => (evE C e σ).bind fun r => (M.ofOpt r.tupD).bind fun xs => .ret (false, pairsL (rangeL k xs.length) (xs.map .p))
  | .rng3 a b c, σ => (evE C a σ).bind fun r => (evE C b σ).bind fun r' => (evE C c σ).bind fun r'' => (M.ofOpt r.int).bind fun i => (M.ofOpt r'.int).bind fun j => (M.ofOpt r''.int).bind fun k =>
      .guard (decide (-(2 ^ 62) ≤ i) && decide (i < 2 ^ 62) && decide (-(2 ^ 62) ≤ j) && decide (j < 2 ^ 62) && decide (k = -1)) (.ret (false, downL i (i - j).toNat))
end

/-! ### statements -/
inductive Fl where
  | nx | brk | cont
  | ret (r : Res)
def Res.slot : Res → Option Slot
  | .v x => some (.v x)
  | .l true xs => some (.own xs)
  | .l false _ => none
def whileF (c : Sl → M Bool) (b : Sl → M (Fl × Sl)) : Nat → Sl → M (Fl × Sl)
  | 0, _ => .stuck
  | n + 1, σ => (c σ).bind fun k => cond k ((b σ).bind fun fs => match fs.1 with
      | .nx => whileF c b n fs.2
      | .cont => whileF c b n fs.2
      | .brk => .ret (.nx, fs.2)
      | .ret r => .ret (.ret r, fs.2)) (.ret (.nx, σ))
def forF (g : G) (b : Sl → M (Fl × Sl)) : List Val → Sl → M (Fl × Sl)
  | [], σ => .ret (.nx, σ)
  | x :: r, σ => (M.ofOpt (g.put x σ)).bind fun σ1 => (b σ1).bind fun fs => match fs.1 with
      | .nx => forF g b r fs.2
      | .cont => forF g b r fs.2
      | .brk => .ret (.nx, fs.2)
      | .ret q => .ret (.ret q, fs.2)
def setRes : List Nat → List Res → Sl → Option Sl
  | [], [], σ => some σ
  | i :: is, x :: xs, σ => x.slot.bind fun s => setRes is xs (σ.set i (some s))
  | _, _, _ => none
def strOf : Res → Option Str
  | .v (.p (.str x)) => some x
  | _ => none
def Slot.plain : Option Slot → Option Slot
  | some (.v x) => some (.v x)
  | _ => none
/-- what an except suite sees of the names -/
def suiteSl (nm : Option Nat) (σ : Sl) : Sl := match nm with
  | none => σ.map Slot.plain
  | some i => (σ.map Slot.plain).set i (some .thk)
def kept (q : Bool) (k : Option PyData) : M Res := .guard q ((M.ofOpt k).bind fun d => .ret (.v (.p d)))
def evH (C : Ctx) (c : Nat) (k : Option PyData) : HL → Sl → M Res
  | .nil, _ => .exc c k
  | .cons h nm e r, σ => cond (C.sub c h) (evE { C with err := kept (c == h && nm.isSome) k } e (suiteSl nm σ)).calm (evH C c k r σ)
def seqM (m1 m2 : Sl → M (Fl × Sl)) (s : Sl) : M (Fl × Sl) := (m1 s).bind fun fs => match fs.1 with
  | .nx => m2 fs.2
  | _ => .ret fs
def frzM (i : Nat) (m : Sl → M (Fl × Sl)) (s : Sl) : M (Fl × Sl) := match s[i]? with
  | some (some (.own xs)) => m (s.set i (some (.v (.p (.list xs)))))
  | _ => m s
def killM (i : Nat) (m : Sl → M (Fl × Sl)) (s : Sl) : M (Fl × Sl) := m (s.set i none)
def setM (i : Nat) (m : Sl → M Res) (σ : Sl) : M (Fl × Sl) := (m σ).bind fun r => (M.ofOpt r.slot).bind fun s => .ret (.nx, σ.set i (some s))
def unpM (is : List Nat) (m : Sl → M Res) (σ : Sl) : M (Fl × Sl) := (m σ).bind fun r => (M.ofOpt r.toVal).bind fun x => (M.ofOpt ((G.names is).put x σ)).bind fun σ' => .ret (.nx, σ')
def parM (is : List Nat) (m : Sl → M (List Res)) (σ : Sl) : M (Fl × Sl) := (m σ).bind fun rs => (M.ofOpt (setRes is rs σ)).bind fun σ' => .ret (.nx, σ')
def retM (m : Sl → M Res) (σ : Sl) : M (Fl × Sl) := (m σ).bind fun r => .ret (.ret r, σ)
def exprM (m : Sl → M Res) (σ : Sl) : M (Fl × Sl) := (m σ).bind fun _ => .ret (.nx, σ)
def iffM (c : Sl → M Bool) (m1 m2 : Sl → M (Fl × Sl)) (σ : Sl) : M (Fl × Sl) := (c σ).bind fun k => cond k (m1 σ) (m2 σ)
def forM (gt : G) (mi : Sl → M (Bool × List Val)) (m : Sl → M (Fl × Sl)) (σ : Sl) : M (Fl × Sl) := (mi σ).bind fun bx => .guard (!bx.1) (forF gt m bx.2 σ)
def intAt (σ : Sl) (i : Nat) : Option Int := match σ[i]? with
  | some (some (.v (.p (.int a)))) => some a
  | _ => none
def augM (i : Nat) (o : Bop) (m : Sl → M Res) (σ : Sl) : M (Fl × Sl) := (M.ofOpt (intAt σ i)).bind fun a => (m σ).bind fun y => (M.ofOpt y.int).bind fun b => (intOp o a b).bind fun z => .ret (.nx, σ.set i (some (.v (.p (.int z)))))
def appM (i : Nat) (m : Sl → M Res) (σ : Sl) : M (Fl × Sl) := match σ[i]? with
  | some (some (.own xs)) => (m σ).bind fun r => (M.ofOpt (r.toVal.bind Val.data)).bind fun d => .guard (decide (xs.length < 16777216)) (.ret (.nx, σ.set i (some (.own (xs ++ [d])))))
  | _ => .stuck
def extM (i : Nat) (m : Sl → M Res) (σ : Sl) : M (Fl × Sl) := match σ[i]? with
  | some (some (.own xs)) => (m σ).bind fun r => (M.ofOpt r.seq).bind fun ds => .guard (decide (xs.length + ds.length ≤ 16777216)) (.ret (.nx, σ.set i (some (.own (xs ++ ds)))))
  | _ => .stuck
def popM (i : Nat) (σ : Sl) : M (Fl × Sl) := match σ[i]? with
  | some (some (.own xs)) => .guard (!xs.isEmpty) (.ret (.nx, σ.set i (some (.own xs.dropLast))))
  | _ => .stuck
def insM (i : Nat) (ma me : Sl → M Res) (σ : Sl) : M (Fl × Sl) := match σ[i]? with
  | some (some (.own xs)) => (ma σ).bind fun a => (me σ).bind fun r => (M.ofOpt a.int).bind fun k => (M.ofOpt (r.toVal.bind Val.data)).bind fun d => .guard (decide (xs.length < 16777216) && decide (0 ≤ k) && decide (k < 2 ^ 63)) (.ret (.nx, σ.set i (some (.own (xs.take k.toNat ++ [d] ++ xs.drop k.toNat)))))
  | _ => .stuck
def unpgM (ts : List GT) (m : Sl → M Res) (σ : Sl) : M (Fl × Sl) := (m σ).bind fun r => (M.ofOpt r.toVal).bind fun x => (M.ofOpt ((G.nest ts).put x σ)).bind fun σ' => .ret (.nx, σ')
def dsetM (i j : Nat) (m : Sl → M Res) (σ : Sl) : M (Fl × Sl) := (m σ).bind fun r => (M.ofOpt r.int).bind fun k => match σ[i]? with
  | some (some (.v .dice)) => .guard (decide (j < 3)) (.ret (.nx, σ))
  | _ => .stuck
def rs1M (c : Nat) (m : Sl → M Res) (σ : Sl) : M (Fl × Sl) := (m σ).bind fun r => (M.ofOpt (r.toVal.bind Val.data)).bind fun d => .exc c (some d)
def tryM (rt : Bool) (m : Sl → M Res) (hs : Nat → Option PyData → Sl → M Res) (σ : Sl) : M (Fl × Sl) := (m σ).handle (fun r => .ret (cond rt (.ret r, σ) (.nx, σ))) fun c k => (hs c k σ).bind fun r => .ret (.ret r, σ)
mutual
def evS (C : Ctx) : S → Sl → M (Fl × Sl)
  | .set i e, σ => setM i (evE C e) σ
  | .unp is e, σ => unpM is (evE C e) σ
  | .par is es, σ => parM is (evR C es) σ
  | .aug i o e, σ => augM i o (evE C e) σ
  | .app i e, σ => appM i (evE C e) σ
  | .ext i e, σ => extM i (evE C e) σ
  | .pop i, σ => popM i σ
  | .ins i a e, σ => insM i (evE C a) (evE C e) σ
  | .unpg ts e, σ => unpgM ts (evE C e) σ
  | .dset i j e, σ => dsetM i j (evE C e) σ
  | .iff c a b, σ => iffM (evT C c) (evSL C a) (evSL C b) σ
  | .whl c b, σ => whileF (evT C c) (evSL C b) C.fuel σ
  | .for_ g it b, σ => forM g (evI C it) (evSL C b) σ
  | .ret e, σ => retM (evE C e) σ
  | .retN, σ => .ret (.ret (.v (.p .none)), σ)
  | .expr e, σ => exprM (evE C e) σ
  | .raise0 c, _ => .exc c none
  | .raise1 c e, σ => rs1M c (evE C e) σ
  | .tryc rt e hs, σ => tryM rt (evE C e) (fun c k => evH C c k hs) σ
  | .brk, σ => .ret (.brk, σ)
  | .cont, σ => .ret (.cont, σ)
  | .pass, σ => .ret (.nx, σ)
  | .bad, _ => .stuck
def evSL (C : Ctx) : SL → Sl → M (Fl × Sl)
  | .nil, σ => .ret (.nx, σ)
  | .cons s r, σ => seqM (evS C s) (evSL C r) σ
  | .frz i r, σ => frzM i (evSL C r) σ
  | .kill i r, σ => killM i (evSL C r) σ
end
/-! ### defs -/
inductive Def where
  | body (np ns : Nat) (b : SL)
  | thunk (ns : Nat) (b : SL)
  | dice (ns : Nat) (b : SL)
  | roll (ns : Nat) (b : SL)
abbrev Defs := List Def
def Res.up : Res → Res
  | .v x => .v x
  | .l _ xs => .l true xs
def flRes : Fl × Sl → M Res
  | (.nx, _) => .ret (.v (.p .none))
  | (.ret r, _) => .ret r.up
  | _ => .stuck
def startSl (ns : Nat) (xs : List Val) : Sl := xs.map (fun x => some (.v x)) ++ List.replicate (ns - xs.length) none
/-- what is the same for all defs: constants, which error is met by which clause, turns of a while -/
structure Wrl where
  cst : List PyData
  sub : List (Nat × Nat)
  fuel : Nat
  defs : Defs
def Wrl.ctx (V : Wrl) (call : Nat → List Val → M Res) (callT : Nat → M Res → M Res) (thk : M Res) : Ctx where
  cst := fun k => V.cst.getD k .none
  sub := fun a b => V.sub.contains (a, b)
  fuel := V.fuel
  call := call
  callT := callT
  thk := thk
  err := .stuck
  wrap := stdW
def intList : List PyData → Bool
  | [] => true
  | .int _ :: r => intList r
  | _ :: _ => false
mutual
def callF (V : Wrl) : Nat → Nat → List Val → M Res
  | 0, _, _ => .stuck
  | d + 1, f, xs => match V.defs[f]? with
    | some (.body np ns b) => .guard (xs.length == np) ((evSL (V.ctx (callF V d) (callTF V d) .stuck) b (startSl ns xs)).bind flRes)
    | some (.dice _ _) => match xs with
      | [.p (.list ns), .p (.int i)] => .guard (intList ns && decide (0 ≤ i) && decide (i < 1000)) (.ret (.v .dice))
      | _ => .stuck
    | some (.roll _ _) => match xs with
      | [.dice, .p (.int n)] => .guard (decide (0 < n) && decide (n < 1073741824)) (.roll n fun i => .ret (rI i))
      | _ => .stuck
    | _ => .stuck
def callTF (V : Wrl) : Nat → Nat → M Res → M Res
  | 0, _, _ => .stuck
  | d + 1, f, m => match V.defs[f]? with
    | some (.thunk ns b) => (evSL (V.ctx (callF V d) (callTF V d) m) b (some .thk :: List.replicate (ns - 1) none)).bind flRes
    | _ => .stuck
end
end Rf

set_option Elab.async false
set_option linter.all false
set_option maxRecDepth 100000
set_option maxHeartbeats 1000000
/-! R1: how values lie in the heap; what an expression's outcome says of its run. -/
namespace Rf
open PySem PySem.Spec PyProof.Rows L2

/-! data at a value, over the part of the heap that never changes any more -/
mutual
inductive RD (K : PySem.W.Frag) (Z : Hp) : V → PyData → Prop
  | non : RD K Z .non .none
  | bl (b : Bool) : RD K Z (.bl b) (.bool b)
  | int (i : Int) : RD K Z (.int i) (.int i)
  | str (x : Str) : RD K Z (.str x) (.str x)
  | lst {a : Addr} {xs : List V} {ds : List PyData} (q : SqL K Z a xs) (r : RDs K Z xs ds) : RD K Z (.ref a) (.list ds)
  | tup {a : Addr} {xs : List V} {ds : List PyData} (q : SqT K Z a xs) (r : RDs K Z xs ds) : RD K Z (.ref a) (.tuple ds)
  | dct {a : Addr} (q : Z a = some (.dK [])) : RD K Z (.ref a) (.dict [])
inductive RDs (K : PySem.W.Frag) (Z : Hp) : List V → List PyData → Prop
  | nil : RDs K Z [] []
  | cons {v : V} {vs : List V} {d : PyData} {ds : List PyData} (h : RD K Z v d) (r : RDs K Z vs ds) : RDs K Z (v :: vs) (d :: ds)
end

/-- the part that never changes, the dice -/
structure Gh where
  Z : Hp
  dc : Addr → Prop
/-- where defs and classes of errors stand, what an error keeps; the tables of code objects -/
structure Tab where
  fa : Nat → Option Addr
  ca : Nat → Option Addr
  cf : Nat → Option Str
  tb : List (Addr × Str)

mutual
inductive Rep (K : PySem.W.Frag) (T : Tab) (g : Gh) : V → Val → Prop
  | p {v : V} {d : PyData} (h : RD K g.Z v d) : Rep K T g v (.p d)
  | fn {i : Nat} {a : Addr} (h : T.fa i = some a) : Rep K T g (.ref a) (.fn i)
  | dice {a : Addr} (h : g.dc a) : Rep K T g (.ref a) .dice
  | mt {a : Addr} {vs : List V} {xs : List Val} (q : SqT K g.Z a vs) (r : Reps K T g vs xs) : Rep K T g (.ref a) (.mt xs)
inductive Reps (K : PySem.W.Frag) (T : Tab) (g : Gh) : List V → List Val → Prop
  | nil : Reps K T g [] []
  | cons {v : V} {vs : List V} {x : Val} {xs : List Val} (h : Rep K T g v x) (r : Reps K T g vs xs) : Reps K T g (v :: vs) (x :: xs)
end

section
variable {K : PySem.W.Frag} {T : Tab} {Z Z' : Hp} {g g' : Gh}
theorem Same.seqT {H H' : Hp} {a : Addr} {xs : List V} (e : Same H H') (h : SqT K H a xs) : SqT K H' a xs := by
  rcases h with (h | ⟨o, h⟩) | h
  · exact Or.inl (.inl (e _ _ h))
  · exact Or.inl (.inr ⟨o, e _ _ h⟩)
  · exact Or.inr h
mutual
theorem RD.mono (e : Same Z Z') : ∀ {v : V} {d : PyData}, RD K Z v d → RD K Z' v d
  | _, _, .non => .non
  | _, _, .bl b => .bl b
  | _, _, .int i => .int i
  | _, _, .str x => .str x
  | _, _, .lst q r => .lst (e.seq q) (RDs.mono e r)
  | _, _, .tup q r => .tup (Same.seqT e q) (RDs.mono e r)
  | _, _, .dct q => .dct (e _ _ q)
theorem RDs.mono (e : Same Z Z') : ∀ {vs : List V} {ds : List PyData}, RDs K Z vs ds → RDs K Z' vs ds
  | _, _, .nil => .nil
  | _, _, .cons h r => .cons (RD.mono e h) (RDs.mono e r)
end
mutual
theorem Rep.mono (e : Same g.Z g'.Z) (d : ∀ a, g.dc a → g'.dc a) : ∀ {v : V} {x : Val}, Rep K T g v x → Rep K T g' v x
  | _, _, .p h => .p (h.mono e)
  | _, _, .fn h => .fn h
  | _, _, .dice h => .dice (d _ h)
  | _, _, .mt q r => .mt (Same.seqT e q) (Reps.mono e d r)
theorem Reps.mono (e : Same g.Z g'.Z) (d : ∀ a, g.dc a → g'.dc a) : ∀ {vs : List V} {xs : List Val}, Reps K T g vs xs → Reps K T g' vs xs
  | _, _, .nil => .nil
  | _, _, .cons h r => .cons (Rep.mono e d h) (Reps.mono e d r)
end
theorem RDs.len : ∀ {vs : List V} {ds : List PyData}, RDs K Z vs ds → vs.length = ds.length
  | _, _, .nil => rfl
  | _, _, .cons _ r => congrArg (· + 1) (RDs.len r)
theorem Reps.len : ∀ {vs : List V} {ds : List Val}, Reps K T g vs ds → vs.length = ds.length
  | _, _, .nil => rfl
  | _, _, .cons _ r => congrArg (· + 1) (Reps.len r)
theorem RDs.get : ∀ {vs : List V} {ds : List PyData} {i : Nat} {d : PyData}, RDs K Z vs ds → ds[i]? = some d → ∃ v, vs[i]? = some v ∧ RD K Z v d
  | _, _, _, _, .nil, e => by simp at e
  | _, _, 0, _, .cons h _, e => by
    simp at e
    subst e
    exact ⟨_, rfl, h⟩
  | _, _, i + 1, _, .cons _ r, e => by
    obtain ⟨v, h1, h2⟩ := RDs.get (i := i) r (by simpa using e)
    exact ⟨v, by simpa using h1, h2⟩
theorem RDs.getV : ∀ {vs : List V} {ds : List PyData} {i : Nat} {v : V}, RDs K Z vs ds → vs[i]? = some v → ∃ d, ds[i]? = some d ∧ RD K Z v d
  | _, _, _, _, .nil, e => by simp at e
  | _, _, 0, _, .cons h _, e => by
    simp at e
    subst e
    exact ⟨_, rfl, h⟩
  | _, _, i + 1, _, .cons _ r, e => by
    obtain ⟨v, h1, h2⟩ := RDs.getV (i := i) r (by simpa using e)
    exact ⟨v, by simpa using h1, h2⟩
theorem Reps.get : ∀ {vs : List V} {ds : List Val} {i : Nat} {d : Val}, Reps K T g vs ds → ds[i]? = some d → ∃ v, vs[i]? = some v ∧ Rep K T g v d
  | _, _, _, _, .nil, e => by simp at e
  | _, _, 0, _, .cons h _, e => by
    simp at e
    subst e
    exact ⟨_, rfl, h⟩
  | _, _, i + 1, _, .cons _ r, e => by
    obtain ⟨v, h1, h2⟩ := Reps.get (i := i) r (by simpa using e)
    exact ⟨v, by simpa using h1, h2⟩
theorem RDs.append : ∀ {vs us : List V} {ds es : List PyData}, RDs K Z vs ds → RDs K Z us es → RDs K Z (vs ++ us) (ds ++ es)
  | _, _, _, _, .nil, s => s
  | _, _, _, _, .cons h r, s => .cons h (RDs.append r s)
theorem RDs.take : ∀ {vs : List V} {ds : List PyData} (n : Nat), RDs K Z vs ds → RDs K Z (vs.take n) (ds.take n)
  | _, _, 0, _ => .nil
  | _, _, _ + 1, .nil => .nil
  | _, _, n + 1, .cons h r => .cons h (RDs.take n r)
theorem RDs.drop : ∀ {vs : List V} {ds : List PyData} (n : Nat), RDs K Z vs ds → RDs K Z (vs.drop n) (ds.drop n)
  | _, _, 0, r => r
  | _, _, _ + 1, .nil => .nil
  | _, _, n + 1, .cons _ r => RDs.drop n r
theorem RDs.rep {vs : List V} {ds : List PyData} (h : RDs K Z vs ds) : ∀ k : Nat, RDs K Z (List.replicate k vs).flatten (List.replicate k ds).flatten
  | 0 => .nil
  | k + 1 => by
    rw [List.replicate_succ, List.replicate_succ, List.flatten_cons, List.flatten_cons]
    exact h.append (RDs.rep h k)
theorem RDs.reps : ∀ {vs : List V} {ds : List PyData}, RDs K g.Z vs ds → Reps K T g vs (ds.map .p)
  | _, _, .nil => .nil
  | _, _, .cons h r => .cons (.p h) (RDs.reps r)
theorem Reps.data : ∀ {vs : List V} {xs : List Val} {ds : List PyData}, Reps K T g vs xs → dataAll xs = some ds → RDs K g.Z vs ds
  | _, _, ds, .nil, e => by
    cases e
    exact .nil
  | _, _, ds, .cons (.p h) r, e => by
    obtain ⟨es, e1, e2⟩ := Option.map_eq_some_iff.mp (show (dataAll _).map _ = some ds from e)
    subst e2
    exact .cons h (Reps.data r e1)
  | _, _, _, .cons (.fn _) _, e => by cases e
  | _, _, _, .cons (.dice _) _, e => by cases e
  | _, _, _, .cons (.mt _ _) _, e => by cases e
/-- a tuple of values that stands at a -/
theorem Reps.tup {a : Addr} {vs : List V} {xs : List Val} (r : Reps K T g vs xs) (q : SqT K g.Z a vs) : Rep K T g (.ref a) (mkTup xs) := by
  unfold mkTup
  cases e : dataAll xs with
  | some ds => exact .p (.tup q (r.data e))
  | none => exact .mt q r
end

/-! ### steps of the heap -/
structure Step (g : Gh) (H : Hp) (g' : Gh) (H' : Hp) : Prop where
  z : Same g.Z g'.Z
  zn : ∀ a o, g'.Z a = some o → g.Z a = some o ∨ H a = none
  dc : ∀ a, g.dc a → g'.dc a
  dn : ∀ a, g'.dc a → g.dc a ∨ H a = none
  hp : ∀ a o, H a = some o → ¬ g.dc a → (∀ ps, o ≠ .tbl ps) → H' a = some o
  there : ∀ a o, H a = some o → ∃ o', H' a = some o'
structure Good (T : Tab) (g : Gh) (H : Hp) : Prop where
  zs : Same g.Z H
  zt : ∀ a ps, g.Z a ≠ some (.tbl ps)
  dc : ∀ a, g.dc a → g.Z a = none ∧ ∃ i j k, H a = some (.lst [.int i, .int j, .int k])
  tb : LamX.Tabs T.tb H
  tbl : ∀ a ps, H a = some (.tbl ps) → ∃ q, (a, q) ∈ T.tb
section
variable {T : Tab} {K : PySem.W.Frag} {g g1 g2 : Gh} {H H1 H2 : Hp}
theorem Step.refl : Step g H g H := ⟨fun _ _ h => h, fun _ _ h => .inl h, fun _ h => h, fun _ h => .inl h, fun _ _ h _ _ => h, fun _ o h => ⟨o, h⟩⟩
theorem Step.trans (a : Step g H g1 H1) (b : Step g1 H1 g2 H2) : Step g H g2 H2 where
  z := a.z.trans b.z
  zn := fun x o h => by
    rcases b.zn x o h with h | h
    · exact a.zn x o h
    · refine Or.inr ?_
      cases e : H x with
      | none => rfl
      | some u =>
        obtain ⟨u', e'⟩ := a.there x u e
        rw [h] at e'
        cases e'
  dc := fun x h => b.dc x (a.dc x h)
  dn := fun x h => by
    rcases b.dn x h with h | h
    · exact a.dn x h
    · refine Or.inr ?_
      cases e : H x with
      | none => rfl
      | some u =>
        obtain ⟨u', e'⟩ := a.there x u e
        rw [h] at e'
        cases e'
  hp := fun x o h n t => by
    have h1 := a.hp x o h n t
    refine b.hp x o h1 (fun d => ?_) t
    rcases a.dn x d with d | d
    · exact n d
    · rw [h] at d
      cases d
  there := fun x o h => let ⟨o1, e1⟩ := a.there x o h; b.there x o1 e1
/-- a new object, that is known from now on -/
def Gh.add (g : Gh) (a : Addr) (o : HO) : Gh := ⟨upd g.Z a o, g.dc⟩
theorem Same.add {a : Addr} {o : HO} (h : H a = none) : Same H (upd H a o) := fun b x e => by
  rw [upd_ne (ne_of_none e h)]
  exact e
theorem Good.zfree (G : Good T g H) {a : Addr} (h : H a = none) : g.Z a = none := G.zs.free h
theorem Good.dfree (G : Good T g H) {a : Addr} (h : H a = none) : ¬ g.dc a := fun d => by
  obtain ⟨_, i, j, k, e⟩ := G.dc a d
  rw [h] at e
  cases e
/-- an object is laid, and stays -/
theorem Step.new {a : Addr} {o : HO} (G : Good T g H) (h : H a = none) : Step g H (g.add a o) (upd H a o) where
  z := Same.add (G.zfree h)
  zn := fun b u e => by
    by_cases hb : b = a
    · subst hb
      exact .inr h
    · refine .inl ?_
      have e : upd g.Z a o b = some u := e
      rwa [upd_ne hb] at e
  dc := fun _ d => d
  dn := fun _ d => .inl d
  hp := fun b u e _ _ => Same.add h b u e
  there := fun b u e => ⟨u, Same.add h b u e⟩
/-- an object is laid, and may change -/
theorem Step.lay {a : Addr} {o : HO} (h : H a = none) : Step g H g (upd H a o) where
  z := fun _ _ e => e
  zn := fun _ _ e => .inl e
  dc := fun _ d => d
  dn := fun _ d => .inl d
  hp := fun b u e _ _ => Same.add h b u e
  there := fun b u e => ⟨u, Same.add h b u e⟩
theorem Good.lay {a : Addr} {o : HO} (G : Good T g H) (h : H a = none) (t : ∀ ps, o ≠ .tbl ps) : Good T g (upd H a o) where
  tbl := fun b ps e => by
    by_cases hb : b = a
    · subst hb
      rw [upd_same] at e
      exact absurd (Option.some.inj e) (t ps)
    · rw [upd_ne hb] at e
      exact G.tbl b ps e
  zs := fun b u e => Same.add h b u (G.zs b u e)
  zt := G.zt
  dc := fun b d => by
    obtain ⟨n, i, j, k, e⟩ := G.dc b d
    exact ⟨n, i, j, k, Same.add h b _ e⟩
  tb := G.tb.ext (Same.add h)
theorem Good.new {a : Addr} {o : HO} (G : Good T g H) (h : H a = none) (t : ∀ ps, o ≠ .tbl ps) : Good T (g.add a o) (upd H a o) where
  tbl := (G.lay h t).tbl
  zs := fun b u e => by
    have e : upd g.Z a o b = some u := e
    by_cases hb : b = a
    · subst hb
      rw [upd_same] at e ⊢
      exact e
    · rw [upd_ne hb] at e ⊢
      exact G.zs b u e
  zt := fun b ps e => by
    have e : upd g.Z a o b = some (.tbl ps) := e
    by_cases hb : b = a
    · subst hb
      rw [upd_same] at e
      exact t ps (Option.some.inj e)
    · rw [upd_ne hb] at e
      exact G.zt b ps e
  dc := fun b d => by
    obtain ⟨n, i, j, k, e⟩ := G.dc b d
    refine ⟨?_, i, j, k, Same.add h b _ e⟩
    show upd g.Z a o b = none
    rw [upd_ne (ne_of_none e h)]
    exact n
  tb := G.tb.ext (Same.add h)
/-- what stands and may change is known from now on -/
theorem Step.fix {a : Addr} {o : HO} (h0 : H a = none) (h1 : H1 a = some o) (G : Good T g1 H1) (s : Step g H g1 H1) (hz : g1.Z a = none) : Step g H (g1.add a o) H1 where
  z := s.z.trans (Same.add hz)
  zn := fun b u e => by
    by_cases hb : b = a
    · subst hb
      exact .inr h0
    · refine s.zn b u ?_
      have e : upd g1.Z a o b = some u := e
      rwa [upd_ne hb] at e
  dc := s.dc
  dn := s.dn
  hp := s.hp
  there := s.there
theorem Good.fix {a : Addr} {o : HO} (G : Good T g H) (h : H a = some o) (hd : ¬ g.dc a) (t : ∀ ps, o ≠ .tbl ps) : Good T (g.add a o) H where
  tbl := G.tbl
  zs := fun b u e => by
    have e : upd g.Z a o b = some u := e
    by_cases hb : b = a
    · subst hb
      rw [upd_same] at e
      rw [h]
      exact e
    · rw [upd_ne hb] at e
      exact G.zs b u e
  zt := fun b ps e => by
    have e : upd g.Z a o b = some (.tbl ps) := e
    by_cases hb : b = a
    · subst hb
      rw [upd_same] at e
      exact t ps (Option.some.inj e)
    · rw [upd_ne hb] at e
      exact G.zt b ps e
  dc := fun b d => by
    obtain ⟨n, i, j, k, e⟩ := G.dc b d
    refine ⟨?_, i, j, k, e⟩
    show upd g.Z a o b = none
    rw [upd_ne (show b ≠ a from fun z => hd (by rw [← z]; exact d))]
    exact n
  tb := G.tb
end

/-! ### names -/
/-- the def's entry -/
structure Bs where
  g : Gh
  H : Hp
  th : Option Addr
/-- a list that may change stands at a -/
def OwnL (K : PySem.W.Frag) (g : Gh) (H : Hp) (a : Addr) (xs : List PyData) : Prop := g.Z a = none ∧ ¬ g.dc a ∧ ∃ vs, H a = some (.lst vs) ∧ RDs K g.Z vs xs
def SlotV (K : PySem.W.Frag) (T : Tab) (B : Bs) (g : Gh) (H : Hp) (v : V) : Slot → Prop
  | .v x => Rep K T g v x
  | .own xs => ∃ a, v = .ref a ∧ OwnL K g H a xs ∧ B.H a = none
  | .thk => ∃ a, v = .ref a ∧ B.th = some a
/-- no name owns the list at a -/
def NotOwn (σ : L2.St) (sd : Sl) (a : Addr) : Prop := ∀ (i : Nat) ys, sd[i]? = some (some (.own ys)) → σ[i]? ≠ some (some (.ref a))
/-- the names and the heap are as sd tells; B: the heap at the def's entry -/
structure SR (K : PySem.W.Frag) (T : Tab) (B : Bs) (g : Gh) (H : Hp) (σ : L2.St) (sd : Sl) : Prop where
  good : Good T g H
  slots : ∀ (i : Nat) s, sd[i]? = some (some s) → ∃ v, σ[i]? = some (some v) ∧ SlotV K T B g H v s
  apart : ∀ (i j : Nat) xs ys a, i ≠ j → sd[i]? = some (some (.own xs)) → sd[j]? = some (some (.own ys)) → σ[i]? = some (some (.ref a)) → σ[j]? ≠ some (some (.ref a))
  len : sd.length = σ.length
  base : Step B.g B.H g H
theorem SR.bsn {K : PySem.W.Frag} {T : Tab} {B : Bs} {g : Gh} {H : Hp} {σ : L2.St} {sd : Sl} (S : SR K T B g H σ sd) {a : Addr} (h : H a = none) : B.H a = none := by
  cases e : B.H a with
  | none => rfl
  | some o =>
    obtain ⟨o', e'⟩ := S.base.there a o e
    rw [h] at e'
    cases e'
/-- how an expression's value lies; H0: the heap where the expression began -/
def ResV (K : PySem.W.Frag) (T : Tab) (B : Bs) (σ : L2.St) (sd : Sl) (H0 : Hp) (g : Gh) (H : Hp) (v : V) : Res → Prop
  | .v x => Rep K T g v x
  | .l fr xs => ∃ a, v = .ref a ∧ OwnL K g H a xs ∧ B.H a = none ∧ (fr = true → NotOwn σ sd a ∧ H0 a = none)
/-- how an error lies -/
def ExcV (K : PySem.W.Frag) (T : Tab) (g : Gh) (H : Hp) (cls : Value) (d : Option Addr) (c : Nat) (k : Option PyData) : Prop :=
  ∃ C, T.ca c = some C ∧ cls = .ref C ∧ ((T.cf c = none ∧ k = none ∧ d = none) ∨ ∃ f x dx v, T.cf c = some f ∧ k = some x ∧ d = some dx ∧ H dx = some (.xd [(f, v)]) ∧ RD K g.Z v x)
section
variable {K : PySem.W.Frag} {T : Tab} {B : Bs} {g g' : Gh} {H H' : Hp} {σ : L2.St} {sd : Sl} {v : V} {r : Res}
theorem OwnL.step {a : Addr} {xs : List PyData} (h : OwnL K g H a xs) (s : Step g H g' H') : OwnL K g' H' a xs := by
  obtain ⟨hz, hd, vs, e, r⟩ := h
  refine ⟨?_, fun d => ?_, vs, s.hp a _ e hd (fun ps q => by cases q), r.mono s.z⟩
  · cases q : g'.Z a with
    | none => rfl
    | some o =>
      rcases s.zn a o q with z | z
      · rw [hz] at z
        cases z
      · rw [e] at z
        cases z
  · rcases s.dn a d with z | z
    · exact hd z
    · rw [e] at z
      cases z
theorem Rep.step {x : Val} (h : Rep K T g v x) (s : Step g H g' H') : Rep K T g' v x := h.mono s.z s.dc
theorem SlotV.step {x : Slot} (h : SlotV K T B g H v x) (s : Step g H g' H') : SlotV K T B g' H' v x := by
  cases x with
  | v x => exact Rep.step (H := H) (H' := H') h s
  | own xs =>
    obtain ⟨a, e, o, b⟩ := h
    exact ⟨a, e, o.step s, b⟩
  | thk => exact h
theorem ResV.step {H0 : Hp} (h : ResV K T B σ sd H0 g H v r) (s : Step g H g' H') : ResV K T B σ sd H0 g' H' v r := by
  cases r with
  | v x => exact Rep.step (H := H) (H' := H') h s
  | l fr xs =>
    obtain ⟨a, e, o, b, n⟩ := h
    exact ⟨a, e, o.step s, b, n⟩
theorem SR.step (h : SR K T B g H σ sd) (s : Step g H g' H') (G : Good T g' H') : SR K T B g' H' σ sd :=
  ⟨G, fun i x e => let ⟨v, e1, q⟩ := h.slots i x e; ⟨v, e1, q.step s⟩, h.apart, h.len, h.base.trans s⟩
theorem Step.none (s : Step g H g' H') {a : Addr} (h : H' a = none) : H a = none := by
  cases q : H a with
  | none => rfl
  | some o =>
    obtain ⟨o', e'⟩ := s.there a o q
    rw [h] at e'
    cases e'
theorem ResV.back {H0 H1 : Hp} (h : ResV K T B σ sd H1 g H v r) (s : ∀ a, H1 a = none → H0 a = none) : ResV K T B σ sd H0 g H v r := by
  cases r with
  | v x => exact h
  | l fr xs =>
    obtain ⟨a, e, o, b, n⟩ := h
    exact ⟨a, e, o, b, fun z => ⟨(n z).1, s a (n z).2⟩⟩
theorem SR.new {a : Addr} {o : HO} (S : SR K T B g H σ sd) (h : H a = none) (t : ∀ ps, o ≠ .tbl ps) : SR K T B (g.add a o) (upd H a o) σ sd := S.step (.new S.good h) (S.good.new h t)
theorem SR.notOwn {a : Addr} (S : SR K T B g H σ sd) (h : H a = none) : NotOwn σ sd a := fun i ys e1 e2 => by
  obtain ⟨v, e3, b, e4, o, _⟩ := S.slots i _ e1
  rw [e2] at e3
  cases e3
  cases e4
  obtain ⟨_, _, vs, e5, _⟩ := o
  rw [h] at e5
  cases e5
theorem SR.newL {p : Addr} {vs : List V} {xs : List PyData} {fr : Bool} (S : SR K T B g H σ sd) (h : H p = none) (r : RDs K g.Z vs xs) : ResV K T B σ sd H g (upd H p (.lst vs)) (.ref p) (.l fr xs) :=
  ⟨p, rfl, ⟨S.good.zfree h, S.good.dfree h, vs, upd_same, r⟩, S.bsn h, fun _ => ⟨S.notOwn h, h⟩⟩
theorem SR.lay {a : Addr} {o : HO} (S : SR K T B g H σ sd) (h : H a = none) (t : ∀ ps, o ≠ .tbl ps) : SR K T B g (upd H a o) σ sd := S.step (.lay h) (S.good.lay h t)
theorem SR.layL {a : Addr} {vs : List V} (S : SR K T B g H σ sd) (h : H a = none) : SR K T B g (upd H a (.lst vs)) σ sd := S.lay h fun _ z => by cases z
end

/-! ### what an outcome says -/
section
variable (K : PySem.W.Frag) (T : Tab) (B : Bs) (W : WX) (σ : L2.St) (sd : Sl)
def PR (Q : VK) (g : Gh) (H : Hp) (r : Res) : Prop := ∀ v g' H', Step g H g' H' → SR K T B g' H' σ sd → ResV K T B σ sd H g' H' v r → Q v H'
def PB (Q : Bool → Hp → Prop) (g : Gh) (H : Hp) (b : Bool) : Prop := ∀ g' H', Step g H g' H' → SR K T B g' H' σ sd → Q b H'
def PL (Q : List V → Hp → Prop) (g : Gh) (H : Hp) (xs : List Val) : Prop := ∀ vs g' H', Step g H g' H' → SR K T B g' H' σ sd → Reps K T g' vs xs → Q vs H'
inductive ResVs (H0 : Hp) (g : Gh) (H : Hp) : List V → List Res → Prop
  | nil : ResVs H0 g H [] []
  | cons {v : V} {vs : List V} {r : Res} {rs : List Res} (h : ResV K T B σ sd H0 g H v r) (t : ResVs H0 g H vs rs) (n : ∀ a xs, v = .ref a → r = .l true xs → ∀ (j : Nat) ys, rs[j]? = some (.l true ys) → vs[j]? ≠ some (.ref a)) : ResVs H0 g H (v :: vs) (r :: rs)
def PA' (Q : List V → Hp → Prop) (g : Gh) (H : Hp) (xs : List Res) : Prop := ∀ vs g' H', Step g H g' H' → SR K T B g' H' σ sd → ResVs K T B σ sd H g' H' vs xs → Q vs H'
def PX (g : Gh) (H : Hp) (c : Nat) (k : Option PyData) : Prop := ∀ cls d g' H', Step g H g' H' → SR K T B g' H' σ sd → ExcV K T g' H' cls d c k → W cls d σ H'
end
section
variable (K : PySem.W.Frag) (T : Tab) (B : Bs) (W : WX)
def tE (m : Sl → M Res) : TE := fun σ H Q => ∃ g sd, SR K T B g H σ sd ∧ (m sd).wp (PR K T B σ sd Q g H) (PX K T B W σ sd g H)
def tT (m : Sl → M Bool) : TT := fun σ H Q => ∃ g sd, SR K T B g H σ sd ∧ (m sd).wp (PB K T B σ sd Q g H) (PX K T B W σ sd g H)
def tL (m : Sl → M (List Val)) : TA := fun σ H Q => ∃ g sd, SR K T B g H σ sd ∧ (m sd).wp (PL K T B σ sd Q g H) (PX K T B W σ sd g H)
def tR (m : Sl → M (List Res)) : TA := fun σ H Q => ∃ g sd, SR K T B g H σ sd ∧ (m sd).wp (PA' K T B σ sd Q g H) (PX K T B W σ sd g H)
end
def EE (T : Tab) (X : Cx) (W : WX) (B : Bs) (e : Expr) (m : Sl → M Res) : Prop := PE X e (tE X.K T B W m)
def ET (T : Tab) (X : Cx) (W : WX) (B : Bs) (e : Expr) (m : Sl → M Bool) : Prop := PT X e (tT X.K T B W m)
def EA (T : Tab) (X : Cx) (W : WX) (B : Bs) (es : List Expr) (m : Sl → M (List Val)) : Prop := PA X es (tL X.K T B W m)
def ER (T : Tab) (X : Cx) (W : WX) (B : Bs) (es : List Expr) (m : Sl → M (List Res)) : Prop := PA X es (tR X.K T B W m)
section
variable {K : PySem.W.Frag} {T : Tab} {B : Bs} {W : WX} {σ : L2.St} {sd : Sl} {g g1 : Gh} {H H1 : Hp}
theorem PR.weak {Q : VK} {r : Res} (h : PR K T B σ sd Q g H r) (s : Step g H g1 H1) : PR K T B σ sd Q g1 H1 r := fun v g' H' s' S R => h v g' H' (s.trans s') S (R.back fun a e => s.none e)
theorem PB.weak {Q : Bool → Hp → Prop} {r : Bool} (h : PB K T B σ sd Q g H r) (s : Step g H g1 H1) : PB K T B σ sd Q g1 H1 r := fun g' H' s' S => h g' H' (s.trans s') S
theorem PL.weak {Q : List V → Hp → Prop} {r : List Val} (h : PL K T B σ sd Q g H r) (s : Step g H g1 H1) : PL K T B σ sd Q g1 H1 r := fun v g' H' s' S R => h v g' H' (s.trans s') S R
theorem ResVs.back {H0 H2 : Hp} (s : ∀ a, H2 a = none → H0 a = none) : ∀ {vs : List V} {rs : List Res}, ResVs K T B σ sd H2 g H vs rs → ResVs K T B σ sd H0 g H vs rs
  | _, _, .nil => .nil
  | _, _, .cons h t n => .cons (h.back s) (ResVs.back s t) n
theorem ResVs.step {H0 : Hp} (s : Step g H g1 H1) : ∀ {vs : List V} {rs : List Res}, ResVs K T B σ sd H0 g H vs rs → ResVs K T B σ sd H0 g1 H1 vs rs
  | _, _, .nil => .nil
  | _, _, .cons h t n => .cons (h.step s) (ResVs.step s t) n
theorem PA'.weak {Q : List V → Hp → Prop} {r : List Res} (h : PA' K T B σ sd Q g H r) (s : Step g H g1 H1) : PA' K T B σ sd Q g1 H1 r := fun v g' H' s' S R => h v g' H' (s.trans s') S (ResVs.back (fun a e => s.none e) R)
theorem PX.weak {c : Nat} {k : Option PyData} (h : PX K T B W σ sd g H c k) (s : Step g H g1 H1) : PX K T B W σ sd g1 H1 c k := fun cls d g' H' s' S R => h cls d g' H' (s.trans s') S R
/-- an expression, and what follows -/
theorem tE.step {α : Type} {m : Sl → M Res} {k : Res → M α} {P : α → Prop} {Q : VK} (S : SR K T B g H σ sd) (h : ((m sd).bind k).wp P (PX K T B W σ sd g H))
    (hQ : ∀ v g1 H1 x, Step g H g1 H1 → SR K T B g1 H1 σ sd → ResV K T B σ sd H g1 H1 v x → (k x).wp P (PX K T B W σ sd g H) → Q v H1) : tE K T B W m σ H Q :=
  ⟨g, sd, S, M.wp_mono _ ((M.wp_bind _ _ _ _).mp h) (fun x hx v g1 H1 st S1 R => hQ v g1 H1 x st S1 R hx) fun _ _ hx => hx⟩
theorem tT.step {α : Type} {m : Sl → M Bool} {k : Bool → M α} {P : α → Prop} {Q : Bool → Hp → Prop} (S : SR K T B g H σ sd) (h : ((m sd).bind k).wp P (PX K T B W σ sd g H))
    (hQ : ∀ b g1 H1, Step g H g1 H1 → SR K T B g1 H1 σ sd → (k b).wp P (PX K T B W σ sd g H) → Q b H1) : tT K T B W m σ H Q :=
  ⟨g, sd, S, M.wp_mono _ ((M.wp_bind _ _ _ _).mp h) (fun x hx g1 H1 st S1 => hQ x g1 H1 st S1 hx) fun _ _ hx => hx⟩
theorem tL.step {α : Type} {m : Sl → M (List Val)} {k : List Val → M α} {P : α → Prop} {Q : List V → Hp → Prop} (S : SR K T B g H σ sd) (h : ((m sd).bind k).wp P (PX K T B W σ sd g H))
    (hQ : ∀ vs g1 H1 xs, Step g H g1 H1 → SR K T B g1 H1 σ sd → Reps K T g1 vs xs → (k xs).wp P (PX K T B W σ sd g H) → Q vs H1) : tL K T B W m σ H Q :=
  ⟨g, sd, S, M.wp_mono _ ((M.wp_bind _ _ _ _).mp h) (fun x hx v g1 H1 st S1 R => hQ v g1 H1 x st S1 R hx) fun _ _ hx => hx⟩
theorem tR.step {α : Type} {m : Sl → M (List Res)} {k : List Res → M α} {P : α → Prop} {Q : List V → Hp → Prop} (S : SR K T B g H σ sd) (h : ((m sd).bind k).wp P (PX K T B W σ sd g H))
    (hQ : ∀ vs g1 H1 xs, Step g H g1 H1 → SR K T B g1 H1 σ sd → ResVs K T B σ sd H g1 H1 vs xs → (k xs).wp P (PX K T B W σ sd g H) → Q vs H1) : tR K T B W m σ H Q :=
  ⟨g, sd, S, M.wp_mono _ ((M.wp_bind _ _ _ _).mp h) (fun x hx v g1 H1 st S1 R => hQ v g1 H1 x st S1 R hx) fun _ _ hx => hx⟩
theorem wkX {α : Type} {m : M α} {P : α → Prop} (h : m.wp P (PX K T B W σ sd g H)) (s : Step g H g1 H1) : m.wp P (PX K T B W σ sd g1 H1) := M.wp_mono _ h (fun _ x => x) fun _ _ x => x.weak s
theorem wkE {m : M Res} {Q : VK} (h : m.wp (PR K T B σ sd Q g H) (PX K T B W σ sd g H)) (s : Step g H g1 H1) : m.wp (PR K T B σ sd Q g1 H1) (PX K T B W σ sd g1 H1) := M.wp_mono _ h (fun _ x => x.weak s) fun _ _ x => x.weak s
theorem wkB {m : M Bool} {Q : Bool → Hp → Prop} (h : m.wp (PB K T B σ sd Q g H) (PX K T B W σ sd g H)) (s : Step g H g1 H1) : m.wp (PB K T B σ sd Q g1 H1) (PX K T B W σ sd g1 H1) := M.wp_mono _ h (fun _ x => x.weak s) fun _ _ x => x.weak s
theorem wkL {m : M (List Val)} {Q : List V → Hp → Prop} (h : m.wp (PL K T B σ sd Q g H) (PX K T B W σ sd g H)) (s : Step g H g1 H1) : m.wp (PL K T B σ sd Q g1 H1) (PX K T B W σ sd g1 H1) := M.wp_mono _ h (fun _ x => x.weak s) fun _ _ x => x.weak s
theorem wkR {m : M (List Res)} {Q : List V → Hp → Prop} (h : m.wp (PA' K T B σ sd Q g H) (PX K T B W σ sd g H)) (s : Step g H g1 H1) : m.wp (PA' K T B σ sd Q g1 H1) (PX K T B W σ sd g1 H1) := M.wp_mono _ h (fun _ x => x.weak s) fun _ _ x => x.weak s
theorem ResVs.free {H0 : Hp} : ∀ {vs : List V} {rs : List Res} {j : Nat} {ys : List PyData} {b : Addr}, ResVs K T B σ sd H0 g H vs rs → rs[j]? = some (.l true ys) → vs[j]? = some (.ref b) → H0 b = none
  | _, _, _, _, _, .nil, e, _ => by simp at e
  | _, _, 0, _, _, .cons h _ _, e, e2 => by
    simp at e e2
    subst e
    subst e2
    obtain ⟨a, e3, _, _, n⟩ := h
    cases e3
    exact (n rfl).2
  | _, _, j + 1, _, _, .cons _ t _, e, e2 => ResVs.free (j := j) t (by simpa using e) (by simpa using e2)
theorem ResVs.put {v : V} {r : Res} {vs : List V} {rs : List Res} {g2 : Gh} {H2 : Hp} (h : ResV K T B σ sd H g1 H1 v r) (s : Step g1 H1 g2 H2) (s0 : ∀ a, H1 a = none → H a = none) (t : ResVs K T B σ sd H1 g2 H2 vs rs) :
    ResVs K T B σ sd H g2 H2 (v :: vs) (r :: rs) := by
  refine .cons (h.step s) (t.back s0) fun a xs e1 e2 j ys e3 e4 => ?_
  subst e1
  subst e2
  obtain ⟨b, e5, o, _, _⟩ := h
  cases e5
  obtain ⟨_, _, us, e6, _⟩ := o
  have z := t.free e3 e4
  rw [e6] at z
  cases z
/-- a value is handed on: a new list stays from now on as it is -/
theorem ResV.hand {v : V} {r : Res} {x : Val} (h : ResV K T B σ sd H g1 H1 v r) (S : SR K T B g1 H1 σ sd) (s : Step g H g1 H1) (e : r.toVal = some x) : ∃ g2, Step g H g2 H1 ∧ SR K T B g2 H1 σ sd ∧ Rep K T g2 v x := by
  cases r with
  | v y =>
    cases e
    exact ⟨g1, s, S, h⟩
  | l fr xs =>
    cases fr with
    | false => cases e
    | true =>
      cases e
      obtain ⟨a, e1, ⟨hz, hd, vs, e2, r⟩, hb, n⟩ := h
      obtain ⟨n1, n2⟩ := n rfl
      have st := Step.fix (o := .lst vs) n2 e2 S.good s hz
      refine ⟨_, st, ⟨S.good.fix e2 hd (fun ps z => by cases z), fun i x q => ?_, S.apart, S.len, Step.fix hb e2 S.good S.base hz⟩, ?_⟩
      · obtain ⟨u, e3, q3⟩ := S.slots i x q
        refine ⟨u, e3, ?_⟩
        cases x with
        | v y => exact Rep.mono (g := g1) (g' := g1.add a (.lst vs)) (Same.add hz) (fun _ d => d) q3
        | thk => exact q3
        | own ys =>
          obtain ⟨b, e4, ⟨oz, od, us, e5, r5⟩, ob⟩ := q3
          refine ⟨b, e4, ⟨?_, od, us, e5, r5.mono (Same.add hz)⟩, ob⟩
          show upd g1.Z a _ b = none
          rw [upd_ne (show b ≠ a from fun z => n1 i ys q (by rw [← z, ← e4]; exact e3))]
          exact oz
      · rw [e1]
        exact .p (.lst (.inl (.inl upd_same)) (r.mono (Same.add hz)))
theorem wp_ofOpt {α β : Type} {o : Option α} {k : α → M β} {Q : β → Prop} {E : Nat → Option PyData → Prop} (h : ((M.ofOpt o).bind k).wp Q E) : ∃ a, o = some a ∧ (k a).wp Q E := by
  cases o with
  | none => exact False.elim h
  | some a => exact ⟨a, rfl, h⟩
theorem wp_ofOpt' {α : Type} {o : Option α} {Q : α → Prop} {E : Nat → Option PyData → Prop} (h : (M.ofOpt o).wp Q E) : ∃ a, o = some a ∧ Q a := by
  cases o with
  | none => exact False.elim h
  | some a => exact ⟨a, rfl, h⟩
theorem wp_guard {α : Type} {b : Bool} {m : M α} {Q : α → Prop} {E : Nat → Option PyData → Prop} (h : (M.guard b m).wp Q E) : b = true ∧ m.wp Q E := by
  cases b with
  | false => exact False.elim h
  | true => exact ⟨rfl, h⟩
end
end Rf

set_option Elab.async false
set_option linter.all false
set_option maxRecDepth 100000
set_option maxHeartbeats 1000000
/-! R2: expressions, construct by construct. -/
namespace Rf
open PySem PySem.Spec PyProof.Rows L2

section
variable {T : Tab} {X : Cx} {W : WX} {B : Bs} {pos : Pos}
/-! ### names and constants -/
theorem ee_var {i : Nat} {x : Str} (hN : X.N[i]? = some x) (hv : Vis X.env.scope x) (hd : (x == ("__debug__" : Str)) = false) (hcd : (x == ("__classdict__" : Str)) = false) : EE T X W B (.Name x pos) fun s => varR s i := by
  refine ⟨fun pins s σ H Q I h => ?_⟩
  obtain ⟨g, sd, S, hw⟩ := h
  have go : ∀ (v : V) (r : Res), σ[i]? = some (some v) → ResV X.K T B σ sd H g H v r → PR X.K T B σ sd Q g H r → wpAny (model X.prog X.w) X.A (eval (.Name x pos) X.env) (EP X pins σ Q) X.xe s := fun v r e R hq =>
    (pe_var hN hv hd hcd).run pins s σ H Q I ⟨v, e, hq v g H .refl S R⟩
  have hw : (varR sd i).wp (PR X.K T B σ sd Q g H) (PX X.K T B W σ sd g H) := hw
  unfold varR at hw
  split at hw
  · rename_i y e
    obtain ⟨v, e1, q⟩ := S.slots i _ e
    exact go v (.v y) e1 q hw
  · rename_i ys e
    obtain ⟨v, e1, a, e2, o, b⟩ := S.slots i _ e
    exact go v (.l false ys) e1 ⟨a, e2, o, b, fun z => by cases z⟩ hw
  · exact False.elim hw
/-- what is a constant -/
theorem ee_const {e : Expr} {v : V} {x : Val} (h : PE X e (tC v)) (r : ∀ g, Rep X.K T g v x) : EE T X W B e fun _ => .ret (.v x) := by
  refine ⟨fun pins s σ H Q I hh => ?_⟩
  obtain ⟨g, sd, S, hw⟩ := hh
  have hw : PR X.K T B σ sd Q g H (.v x) := hw
  exact h.run pins s σ H Q I (hw v g H .refl S (r g))
theorem ee_int {i : Int} {j : Nat} : EE T X W B (.Constant (.int i) j pos) fun _ => .ret (.v (.p (.int i))) := ee_const pe_int fun _ => .p (.int i)
theorem ee_bl {i : Bool} {j : Nat} : EE T X W B (.Constant (.bool i) j pos) fun _ => .ret (.v (.p (.bool i))) := ee_const pe_bl fun _ => .p (.bl i)
theorem ee_non {j : Nat} : EE T X W B (.Constant .none j pos) fun _ => .ret (.v (.p .none)) := ee_const pe_non fun _ => .p .non
theorem ee_str {i : Str} {j : Nat} : EE T X W B (.Constant (.str i) j pos) fun _ => .ret (.v (.p (.str i))) := ee_const pe_str fun _ => .p (.str i)
theorem ee_glob {x : Str} {u : Value} {v : V} {y : Val} (hg : Gl X x) (hm : X.mg x = some u) (r : RelV v u) (hd : (x == ("__debug__" : Str)) = false) (h : ∀ g, Rep X.K T g v y) : EE T X W B (.Name x pos) fun _ => .ret (.v y) := ee_const (pe_glob hg hm r hd) h

/-! ### lists of expressions -/
theorem ea_nil : EA T X W B [] fun _ => .ret [] := by
  refine ⟨fun ps pins s σ H Q I h => ?_⟩
  obtain ⟨g, sd, S, hw⟩ := h
  have hw : PL X.K T B σ sd Q g H [] := hw
  exact pa_nil.run ps pins s σ H Q I (hw [] g H .refl S .nil)
theorem er_nil : ER T X W B [] fun _ => .ret [] := by
  refine ⟨fun ps pins s σ H Q I h => ?_⟩
  obtain ⟨g, sd, S, hw⟩ := h
  have hw : PA' X.K T B σ sd Q g H [] := hw
  exact pa_nil.run ps pins s σ H Q I (hw [] g H .refl S .nil)

def noStar : Expr → Bool
  | .Starred _ _ => false
  | _ => true
theorem star_ok {e : Expr} {es : List Expr} {env : PySem.Env} (h : noStar e = true) : starEach (e :: es) env = (false, eval e env) :: starEach es env := by
  cases e <;> first | rfl | cases h
theorem ea_cons {e : Expr} {es : List Expr} {me : Sl → M Res} {ml : Sl → M (List Val)} (h1 : EE T X W B e me) (h2 : EA T X W B es ml) (hn : noStar e = true) :
    EA T X W B (e :: es) fun s => (me s).bind fun r => (M.ofOpt r.toVal).bind fun x => (ml s).bind fun xs => .ret (x :: xs) := by
  refine ⟨fun ps pins s σ H Q I h => ?_⟩
  obtain ⟨g, sd, S, hw⟩ := h
  refine (pa_cons h1 h2 (star_ok hn)).run ps pins s σ H Q I ?_
  refine tE.step S hw fun v g1 H1 r st S1 R hk => ?_
  obtain ⟨x, e, hk⟩ := wp_ofOpt hk
  obtain ⟨g2, st2, S2, rx⟩ := R.hand S1 st e
  refine tL.step S2 (wkX hk st2) fun vs g3 H3 xs st3 S3 R3 hf => ?_
  have hf : PL X.K T B σ sd Q g H (x :: xs) := hf
  exact hf _ g3 H3 (st2.trans st3) S3 (.cons (Rep.step (H := H1) (H' := H3) rx st3) R3)
theorem er_cons {e : Expr} {es : List Expr} {me : Sl → M Res} {ml : Sl → M (List Res)} (h1 : EE T X W B e me) (h2 : ER T X W B es ml) (hn : noStar e = true) :
    ER T X W B (e :: es) fun s => (me s).bind fun r => (ml s).bind fun xs => .ret (r :: xs) := by
  refine ⟨fun ps pins s σ H Q I h => ?_⟩
  obtain ⟨g, sd, S, hw⟩ := h
  refine (pa_cons h1 h2 (star_ok hn)).run ps pins s σ H Q I ?_
  refine tE.step S hw fun v g1 H1 r st S1 R hk => ?_
  refine tR.step S1 (wkX hk st) fun vs g3 H3 xs st3 S3 R3 hf => ?_
  have hf : PA' X.K T B σ sd Q g H (r :: xs) := hf
  exact hf _ g3 H3 (st.trans st3) S3 (ResVs.put R st3 (fun a e => st.none e) R3)

/-! ### displays -/
theorem len_ok {K : PySem.W.Frag} {g : Gh} {vs : List V} {xs : List Val} (R : Reps K T g vs xs) (h : decide (xs.length ≤ 16777216) = true) : vs.length ≤ sizeLine := by
  rw [R.len, sizeLine_eq]
  exact of_decide_eq_true h
theorem ee_tup {es : List Expr} {k : Nat} {ml : Sl → M (List Val)} (h1 : EA T X W B es ml) :
    EE T X W B (.Tuple es k pos) fun s => (ml s).bind fun xs => .guard (decide (xs.length ≤ 16777216)) (.ret (.v (mkTup xs))) := by
  refine ⟨fun pins s σ H Q I h => ?_⟩
  obtain ⟨g, sd, S, hw⟩ := h
  refine (pe_tup h1).run pins s σ H Q I ?_
  refine tL.step S hw fun vs g1 H1 xs st S1 R hk => ?_
  obtain ⟨hl, hk⟩ := wp_guard hk
  have hk : PR X.K T B σ sd Q g H (.v (mkTup xs)) := hk
  refine ⟨len_ok R hl, fun p np => hk _ (g1.add p (.tup vs)) _ (st.trans (.new S1.good np)) (S1.new np fun ps z => by cases z) ?_⟩
  exact Reps.tup (Reps.mono (g := g1) (g' := g1.add p (.tup vs)) (Same.add (S1.good.zfree np)) (fun _ d => d) R) (.inl (.inl upd_same))
theorem ee_lst {es : List Expr} {ml : Sl → M (List Val)} (h1 : EA T X W B es ml) :
    EE T X W B (.List es pos) fun s => (ml s).bind fun xs => .guard (decide (xs.length ≤ 16777216)) ((M.ofOpt (dataAll xs)).bind fun ds => .ret (.l true ds)) := by
  refine ⟨fun pins s σ H Q I h => ?_⟩
  obtain ⟨g, sd, S, hw⟩ := h
  refine (pe_lst h1).run pins s σ H Q I ?_
  refine tL.step S hw fun vs g1 H1 xs st S1 R hk => ?_
  obtain ⟨hl, hk⟩ := wp_guard hk
  obtain ⟨ds, e, hk⟩ := wp_ofOpt hk
  have hk : PR X.K T B σ sd Q g H (.l true ds) := hk
  exact ⟨len_ok R hl, fun p np => hk _ g1 _ (st.trans (.lay np)) (S1.layL np) ((S1.newL np (R.data e)).back fun a e => st.none e)⟩

/-! ### operations on two values -/
/-- F does what f says -/
def OpM (T : Tab) (X : Cx) (W : WX) (F : Value → Value → Sem Value) (f : Res → Res → M Res) : Prop :=
  ∀ (B : Bs) (g : Gh) (H H0 : Hp) (σ : L2.St) (sd : Sl) (x y : Res) (v u : V) (Q : VK), SR X.K T B g H σ sd → ResV X.K T B σ sd H0 g H v x → ResV X.K T B σ sd H0 g H u y → (f x y).wp (PR X.K T B σ sd Q g H) (PX X.K T B W σ sd g H) →
    ∀ (pins : List (Addr × Obj)) (s : Shared) (ov ou : Value), L2.Inv X pins σ H s → RelV v ov → RelV u ou → wpAny (model X.prog X.w) X.A (F ov ou) (EP X pins σ Q) X.xe s
def rOp (F : Value → Value → Sem Value) (X : Cx) (σ0 : L2.St) : R2 := fun v u H Q => ∀ (pins : List (Addr × Obj)) (s : Shared) (ov ou : Value), L2.Inv X pins σ0 H s → RelV v ov → RelV u ou → wpAny (model X.prog X.w) X.A (F ov ou) (EP X pins σ0 Q) X.xe s
theorem ee_op {F : Value → Value → Sem Value} {f : Res → Res → M Res} {a b e : Expr} {ma mb : Sl → M Res} (hop : OpM T X W F f) (h1 : EE T X W B a ma) (h2 : EE T X W B b mb)
    (he : ∀ {pins : List (Addr × Obj)} {s : Shared} {σ : L2.St} {H : Hp} {Q : VK} {ta tb : TE} {R : V → V → Hp → Prop}, PE X a ta → PE X b tb → L2.Inv X pins σ H s → (ta σ H fun x H1 => tb σ H1 fun y H2 => R x y H2) →
      (∀ v u s2 x y H2, L2.Inv X pins σ H2 s2 → RelV x v → RelV y u → R x y H2 → wpAny (model X.prog X.w) X.A (F v u) (EP X pins σ Q) X.xe s2) → wpAny (model X.prog X.w) X.A (eval e X.env) (EP X pins σ Q) X.xe s) :
    EE T X W B e fun s => (ma s).bind fun x => (mb s).bind fun y => f x y := by
  refine ⟨fun pins s σ H Q I h => ?_⟩
  obtain ⟨g, sd, S, hw⟩ := h
  refine he (R := fun v u H2 => ∀ (s2 : Shared) (ov ou : Value), L2.Inv X pins σ H2 s2 → RelV v ov → RelV u ou → wpAny (model X.prog X.w) X.A (F ov ou) (EP X pins σ Q) X.xe s2) h1 h2 I ?_ fun v u s2 x y H2 I2 r1 r2 q => q s2 v u I2 r1 r2
  refine tE.step S hw fun v g1 H1 x st S1 R hk => ?_
  refine tE.step S1 (wkX hk st) fun u g2 H2 y st2 S2 R2 hk2 => ?_
  intro s2 ov ou I2 r1 r2
  refine hop B g2 H2 H σ sd x y v u Q S2 (R.step st2) (R2.back fun a e => st.none e) ?_ pins s2 ov ou I2 r1 r2
  exact M.wp_mono _ hk2 (fun _ z => PR.weak z (st.trans st2)) fun _ _ z => PX.weak z st2
theorem ee_bin {o : Operator} {f : Res → Res → M Res} {a b : Expr} {ma mb : Sl → M Res} (hop : OpM T X W (binaryOp o) f) (h1 : EE T X W B a ma) (h2 : EE T X W B b mb) :
    EE T X W B (.BinOp a o b pos) fun s => (ma s).bind fun x => (mb s).bind fun y => f x y :=
  ee_op hop h1 h2 fun ha hb I h hf => wpAny_BinOp (binT ha hb I h hf)
theorem ee_cmp {o : CmpOp} {f : Res → Res → M Res} {a b : Expr} {ma mb : Sl → M Res} (hop : OpM T X W (compareOp o) f) (h1 : EE T X W B a ma) (h2 : EE T X W B b mb) (hm : behindInMarks o b = false) :
    EE T X W B (.Compare a [o] [b] pos) fun s => (ma s).bind fun x => (mb s).bind fun y => f x y :=
  ee_op hop h1 h2 fun ha hb I h hf => wpAny_Compare1 (binT ha hb I h hf) hm
/-- from the layer's rules -/
theorem OpM.of {F : Value → Value → Sem Value} {f : Res → Res → M Res} {r : R2} (ho : OpR X F r)
    (h : ∀ (B : Bs) (g : Gh) (H H0 : Hp) (σ : L2.St) (sd : Sl) (x y : Res) (v u : V) (Q : VK), SR X.K T B g H σ sd → ResV X.K T B σ sd H0 g H v x → ResV X.K T B σ sd H0 g H u y → (f x y).wp (PR X.K T B σ sd Q g H) (PX X.K T B W σ sd g H) → r v u H Q) : OpM T X W F f :=
  fun B g H H0 σ sd x y v u Q S R1 R2 hw pins s ov ou I r1 r2 => ho pins s σ H v u ov ou Q I r1 r2 (h B g H H0 σ sd x y v u Q S R1 R2 hw)
end
end Rf

set_option Elab.async false
set_option linter.all false
set_option maxRecDepth 100000
set_option maxHeartbeats 1000000
/-! R3: what the operations do. -/
namespace Rf
open PySem PySem.Spec PyProof.Rows L2

section
variable {T : Tab} {X : Cx} {W : WX} {B : Bs} {σ : L2.St} {sd : Sl} {H0 H : Hp} {g : Gh} {v u : V} {x y : Res}
theorem ResV.int {i : Int} (h : ResV X.K T B σ sd H0 g H v x) (e : x.int = some i) : v = .int i := by
  unfold Res.int at e
  split at e
  · cases e
    cases h with
    | p h => cases h; rfl
  · cases e
theorem ResV.bool {b : Bool} (h : ResV X.K T B σ sd H0 g H v x) (e : x.bool = some b) : v = .bl b := by
  unfold Res.bool at e
  split at e
  · cases e
    cases h with
    | p h => cases h; rfl
  · cases e
theorem ResV.strD {z : Str} (h : ResV X.K T B σ sd H0 g H v (.v (.p (.str z)))) : v = .str z := by
  cases h with
  | p h => cases h; rfl
theorem ResV.tupD {ds : List PyData} (h : ResV X.K T B σ sd H0 g H v (.v (.p (.tuple ds)))) : ∃ a xs, v = .ref a ∧ SqT X.K g.Z a xs ∧ RDs X.K g.Z xs ds := by
  cases h with
  | p h => cases h with | tup q r => exact ⟨_, _, rfl, q, r⟩
theorem ResV.lstD {ds : List PyData} (h : ResV X.K T B σ sd H0 g H v (.v (.p (.list ds)))) : ∃ a xs, v = .ref a ∧ SqL X.K g.Z a xs ∧ RDs X.K g.Z xs ds := by
  cases h with
  | p h => cases h with | lst q r => exact ⟨_, _, rfl, q, r⟩
theorem ResV.mtD {ds : List Val} (h : ResV X.K T B σ sd H0 g H v (.v (.mt ds))) : ∃ a xs, v = .ref a ∧ SqT X.K g.Z a xs ∧ Reps X.K T g xs ds := by
  cases h with
  | mt q r => exact ⟨_, _, rfl, q, r⟩
theorem SR.sqL {K : PySem.W.Frag} (S : SR K T B g H σ sd) {a : Addr} {xs : List V} (h : SqL K g.Z a xs) : SqL K H a xs := S.good.zs.seq h
theorem SR.sqT {K : PySem.W.Frag} (S : SR K T B g H σ sd) {a : Addr} {xs : List V} (h : SqT K g.Z a xs) : SqT K H a xs := Same.seqT S.good.zs h
/-- a list of any sort, to be read -/
theorem ResV.seqL {ds : List PyData} (S : SR X.K T B g H σ sd) (h : ResV X.K T B σ sd H0 g H v x) (e : x.list = some ds) : ∃ a xs, v = .ref a ∧ SqL X.K H a xs ∧ RDs X.K g.Z xs ds := by
  unfold Res.list at e
  split at e
  · cases e
    obtain ⟨a, xs, e1, q, r⟩ := h.lstD
    exact ⟨a, xs, e1, S.sqL q, r⟩
  · cases e
    obtain ⟨a, e1, ⟨_, _, vs, e2, r⟩, _⟩ := h
    exact ⟨a, vs, e1, .inl (.inl e2), r⟩
  · cases e
/-- what is walked: a list or a tuple -/
theorem ResV.its {xs : List Val} (S : SR X.K T B g H σ sd) (h : ResV X.K T B σ sd H0 g H v x) (e : x.items = some xs) : ∃ a vs, v = .ref a ∧ (SqL X.K H a vs ∨ SqT X.K H a vs) ∧ Reps X.K T g vs xs := by
  unfold Res.items at e
  split at e
  · cases e
    obtain ⟨a, us, e1, q, r⟩ := h.lstD
    exact ⟨a, us, e1, .inl (S.sqL q), r.reps⟩
  · cases e
    obtain ⟨a, us, e1, q, r⟩ := h.tupD
    exact ⟨a, us, e1, .inr (S.sqT q), r.reps⟩
  · cases e
    obtain ⟨a, us, e1, q, r⟩ := h.mtD
    exact ⟨a, us, e1, .inr (S.sqT q), r⟩
  · cases e
    obtain ⟨a, e1, ⟨_, _, vs, e2, r⟩, _⟩ := h
    exact ⟨a, vs, e1, .inl (.inl (.inl e2)), r.reps⟩
  · cases e
theorem PR.atV {Q : VK} {z : Val} (h : PR X.K T B σ sd Q g H (.v z)) (S : SR X.K T B g H σ sd) (r : Rep X.K T g v z) : Q v H := h v g H .refl S r
theorem PR.int {Q : VK} {i : Int} (h : PR X.K T B σ sd Q g H (rI i)) (S : SR X.K T B g H σ sd) : Q (.int i) H := h.atV S (.p (.int i))
theorem PR.bl {Q : VK} {i : Bool} (h : PR X.K T B σ sd Q g H (rB i)) (S : SR X.K T B g H σ sd) : Q (.bl i) H := h.atV S (.p (.bl i))
theorem PR.newL {Q : VK} {ds : List PyData} {vs : List V} {p : Addr} (h : PR X.K T B σ sd Q g H (.l true ds)) (S : SR X.K T B g H σ sd) (np : H p = none) (r : RDs X.K g.Z vs ds) : Q (.ref p) (upd H p (.lst vs)) :=
  h _ g _ (.lay np) (S.layL np) (S.newL np r)
theorem PR.newT {Q : VK} {ds : List PyData} {vs : List V} {p : Addr} (h : PR X.K T B σ sd Q g H (.v (.p (.tuple ds)))) (S : SR X.K T B g H σ sd) (np : H p = none) (r : RDs X.K g.Z vs ds) : Q (.ref p) (upd H p (.tup vs)) :=
  h _ (g.add p (.tup vs)) _ (.new S.good np) (S.new np fun ps z => by cases z) (.p (.tup (.inl (.inl upd_same)) (r.mono (Same.add (S.good.zfree np)))))
theorem PR.newM {Q : VK} {ds : List Val} {vs : List V} {p : Addr} (h : PR X.K T B σ sd Q g H (.v (.mt ds))) (S : SR X.K T B g H σ sd) (np : H p = none) (r : Reps X.K T g vs ds) : Q (.ref p) (upd H p (.tup vs)) :=
  h _ (g.add p (.tup vs)) _ (.new S.good np) (S.new np fun ps z => by cases z) (.mt (.inl (.inl upd_same)) (Reps.mono (g := g) (g' := g.add p (.tup vs)) (Same.add (S.good.zfree np)) (fun _ d => d) r))

/-! ### two-place operators -/
theorem binR_int {o : Bop} {i j : Int} (e1 : x.int = some i) (e2 : y.int = some j) : binR o x y = (intOp o i j).bind fun k => .ret (rI k) := by
  unfold binR
  rw [e1, e2]
theorem binR_seq {o : Bop} (e : x.int = none ∨ y.int = none) : binR o x y = seqOp o x y := by
  unfold binR
  rcases e with e | e <;> rw [e]
  cases x.int <;> rfl
theorem ints_or : (∃ i j, x.int = some i ∧ y.int = some j) ∨ (x.int = none ∨ y.int = none) := by
  cases e1 : x.int with
  | none => exact .inr (.inl rfl)
  | some i =>
    cases e2 : y.int with
    | none => exact .inr (.inr rfl)
    | some j => exact .inl ⟨i, j, rfl, rfl⟩
theorem RDs.nil_iff {K : PySem.W.Frag} {Z : Hp} {vs : List V} {ds : List PyData} (r : RDs K Z vs ds) : vs = [] ↔ ds = [] := by
  cases r <;> simp
theorem Reps.nil_iff {K : PySem.W.Frag} {vs : List V} {ds : List Val} (r : Reps K T g vs ds) : vs = [] ↔ ds = [] := by
  cases r <;> simp
theorem Reps.append : ∀ {vs us : List V} {ds es : List Val}, Reps X.K T g vs ds → Reps X.K T g us es → Reps X.K T g (vs ++ us) (ds ++ es)
  | _, _, _, _, .nil, b => b
  | _, _, _, _, .cons h t, b => .cons h (Reps.append t b)
theorem PR.newTup {Q : VK} {ds : List Val} {vs : List V} {p : Addr} (h : PR X.K T B σ sd Q g H (.v (mkTup ds))) (S : SR X.K T B g H σ sd) (np : H p = none) (r : Reps X.K T g vs ds) : Q (.ref p) (upd H p (.tup vs)) := by
  unfold mkTup at h
  cases e : dataAll ds with
  | some es =>
    rw [e] at h
    exact PR.newT h S np (r.data e)
  | none =>
    rw [e] at h
    exact PR.newM h S np r
theorem tupCore {Q : VK} {a b : Addr} {vs us : List V} {xs ys : List Val} (S : SR X.K T B g H σ sd) (e1 : v = .ref a) (e3 : u = .ref b) (q : SqT X.K g.Z a vs) (q2 : SqT X.K g.Z b us) (r : Reps X.K T g vs xs) (r2 : Reps X.K T g us ys) (hz : xs.length + ys.length ≤ 16777216) (hw : PR X.K T B σ sd Q g H (.v (mkTup (xs ++ ys)))) : rCatA X.K v u H Q := by
  refine ⟨a, b, vs, us, e1, e3, S.sqT q, S.sqT q2, ?_, fun e => ?_, fun _ e => ?_, fun _ _ p np => PR.newTup hw S np (r.append r2)⟩
  · rw [r.len, r2.len, sizeLine_eq]
    exact hz
  · have e' := r.nil_iff.mp e
    subst e'
    exact PR.atV hw S (Reps.tup r2 q2)
  · have e' := r2.nil_iff.mp e
    subst e'
    rw [List.append_nil] at hw
    exact PR.atV hw S (Reps.tup r q)
theorem om_add : OpM T X W (binaryOp .Add) (binR .add) := by
  refine OpM.of (op_add.or (op_cat.or (op_catA.or op_add_str))) fun B g H H0 σ sd x y v u Q S R1 R2 hw => ?_
  rcases @ints_or x y with ⟨i, j, e1, e2⟩ | e
  · rw [binR_int e1 e2] at hw
    have hw : PR X.K T B σ sd Q g H (rI (i + j)) := hw
    exact .inl ⟨i, j, R1.int e1, R2.int e2, hw.int S⟩
  · rw [binR_seq e] at hw
    unfold seqOp at hw
    split at hw
    · obtain ⟨hz, hw⟩ := wp_guard hw
      obtain ⟨a, e1, ⟨_, _, vs, e2, r⟩, _⟩ := R1
      obtain ⟨b, e3, ⟨_, _, us, e4, r2⟩, _⟩ := R2
      refine .inr (.inl ⟨a, b, vs, us, e1, e3, e2, e4, ?_, fun p np => PR.newL hw S np (r.append r2)⟩)
      rw [r.len, r2.len, sizeLine_eq]
      exact of_decide_eq_true hz
    · rename_i xs ys
      obtain ⟨hz, hw⟩ := wp_guard hw
      obtain ⟨a, vs, e1, q, r⟩ := R1.tupD
      obtain ⟨b, us, e3, q2, r2⟩ := R2.tupD
      refine .inr (.inr (.inl ⟨a, b, vs, us, e1, e3, S.sqT q, S.sqT q2, ?_, fun e => ?_, fun _ e => ?_, fun _ _ p np => PR.newT hw S np (r.append r2)⟩))
      · rw [r.len, r2.len, sizeLine_eq]
        exact of_decide_eq_true hz
      · have e' := r.nil_iff.mp e
        subst e'
        exact PR.atV hw S (.p (.tup q2 r2))
      · have e' := r2.nil_iff.mp e
        subst e'
        rw [List.append_nil] at hw
        exact PR.atV hw S (.p (.tup q r))
    · rename_i xs ys
      obtain ⟨hz, hw⟩ := wp_guard hw
      obtain ⟨a, vs, e1, q, r⟩ := R1.mtD
      obtain ⟨b, us, e3, q2, r2⟩ := R2.mtD
      exact .inr (.inr (.inl (tupCore S e1 e3 q q2 r r2 (of_decide_eq_true hz) hw)))
    · rename_i xs ys
      obtain ⟨hz, hw⟩ := wp_guard hw
      obtain ⟨a, vs, e1, q, r⟩ := R1.tupD
      obtain ⟨b, us, e3, q2, r2⟩ := R2.mtD
      exact .inr (.inr (.inl (tupCore S e1 e3 q q2 r.reps r2 (by rw [List.length_map]; exact of_decide_eq_true hz) hw)))
    · rename_i xs ys
      obtain ⟨hz, hw⟩ := wp_guard hw
      obtain ⟨a, vs, e1, q, r⟩ := R1.mtD
      obtain ⟨b, us, e3, q2, r2⟩ := R2.tupD
      exact .inr (.inr (.inl (tupCore S e1 e3 q q2 r r2.reps (by rw [List.length_map]; exact of_decide_eq_true hz) hw)))
    · rename_i a b _
      obtain ⟨hz, hw⟩ := wp_guard hw
      exact .inr (.inr (.inr ⟨a, b, R1.strD, R2.strD, by rw [sizeLine_eq]; exact of_decide_eq_true hz, PR.atV hw S (.p (.str _))⟩))
    · rename_i h
      cases h
    · rename_i h
      cases h
    · exact False.elim hw
theorem om_sub : OpM T X W (binaryOp .Sub) (binR .sub) := by
  refine OpM.of op_sub fun B g H H0 σ sd x y v u Q S R1 R2 hw => ?_
  rcases @ints_or x y with ⟨i, j, e1, e2⟩ | e
  · rw [binR_int e1 e2] at hw
    have hw : PR X.K T B σ sd Q g H (rI (i - j)) := hw
    exact ⟨i, j, R1.int e1, R2.int e2, hw.int S⟩
  · rw [binR_seq e] at hw
    unfold seqOp at hw
    split at hw <;> first | exact False.elim hw | (rename_i h; cases h)
theorem om_mul : OpM T X W (binaryOp .Mult) (binR .mul) := by
  refine OpM.of (op_mulW.or (op_mul.or (op_rep.or op_repT))) fun B g H H0 σ sd x y v u Q S R1 R2 hw => ?_
  rcases @ints_or x y with ⟨i, j, e1, e2⟩ | e
  · rw [binR_int e1 e2] at hw
    obtain ⟨hz, hw⟩ := wp_guard ((M.wp_bind _ _ _ _).mp hw)
    have hw : PR X.K T B σ sd Q g H (rI (i * j)) := hw
    rcases Bool.or_eq_true _ _ ▸ hz with hz | hz
    · have hz := of_decide_eq_true hz
      exact .inl ⟨i, j, R1.int e1, R2.int e2, hz, hw.int S⟩
    · have hz := of_decide_eq_true hz
      exact .inr (.inl ⟨i, j, R1.int e1, R2.int e2, .inl ⟨by omega, by omega⟩, hw.int S⟩)
  · rw [binR_seq e] at hw
    unfold seqOp at hw
    split at hw
    · rename_i h; cases h
    · rename_i h; cases h
    · rename_i h; cases h
    · rename_i h; cases h
    · rename_i h; cases h
    · rename_i h; cases h
    · rename_i fr xs k _
      obtain ⟨hz, hw⟩ := wp_guard hw
      obtain ⟨a, e1, ⟨_, _, vs, e2, r⟩, _⟩ := R1
      have e3 := R2.int (i := k) rfl
      simp only [Bool.and_eq_true, decide_eq_true_eq] at hz
      obtain ⟨⟨h1, h2⟩, h3⟩ := hz
      refine .inr (.inr (.inl ⟨a, k, vs, e1, e3, e2, h1, h2, ?_, fun p np => PR.newL hw S np (r.rep k.toNat)⟩))
      rw [r.len, sizeLine_eq]
      exact h3
    · rename_i xs k _
      obtain ⟨hz, hw⟩ := wp_guard hw
      have hw : PR X.K T B σ sd Q g H (.v (.p (.tuple (List.replicate k.toNat xs).flatten))) := hw
      obtain ⟨p, vs, rfl, q, r⟩ := R1.tupD
      have e3 := R2.int (i := k) rfl
      simp only [Bool.and_eq_true, decide_eq_true_eq, Bool.not_eq_true'] at hz
      obtain ⟨⟨⟨h0, h1⟩, h2⟩, h3⟩ := hz
      refine .inr (.inr (.inr ⟨p, k, vs, rfl, e3, S.sqT q, fun z => ?_, h1, h2, by rw [r.len]; exact h3, fun p np => PR.newT hw S np (r.rep k.toNat)⟩))
      have e := r.len
      rw [z] at e
      cases xs with
      | nil => cases h0
      | cons _ _ => cases e
    · exact False.elim hw
theorem om_mod : OpM T X W (binaryOp .Mod) (binR .mod) := by
  refine OpM.of op_modN fun B g H H0 σ sd x y v u Q S R1 R2 hw => ?_
  rcases @ints_or x y with ⟨i, j, e1, e2⟩ | e
  · rw [binR_int e1 e2] at hw
    obtain ⟨hz, hw⟩ := wp_guard ((M.wp_bind _ _ _ _).mp hw)
    have hw : PR X.K T B σ sd Q g H (rI (i.fmod j)) := hw
    exact ⟨i, j, R1.int e1, R2.int e2, by simpa using hz, hw.int S⟩
  · rw [binR_seq e] at hw
    unfold seqOp at hw
    split at hw <;> first | exact False.elim hw | (rename_i h; cases h)
theorem om_fdiv : OpM T X W (binaryOp .FloorDiv) (binR .fdiv) := by
  refine OpM.of (op_fdivN.or op_fdivW) fun B g H H0 σ sd x y v u Q S R1 R2 hw => ?_
  rcases @ints_or x y with ⟨i, j, e1, e2⟩ | e
  · rw [binR_int e1 e2] at hw
    obtain ⟨hz, hw⟩ := wp_guard ((M.wp_bind _ _ _ _).mp hw)
    have hw : PR X.K T B σ sd Q g H (rI (i.fdiv j)) := hw
    simp only [Bool.and_eq_true, Bool.or_eq_true, decide_eq_true_eq, bne_iff_ne, ne_eq] at hz
    obtain ⟨h0, h1 | ⟨h1, h2⟩⟩ := hz
    · exact .inl ⟨i, j, R1.int e1, R2.int e2, ⟨h0, h1⟩, hw.int S⟩
    · refine .inr ⟨i, j, R1.int e1, R2.int e2, ⟨h1, h2⟩, ?_⟩
      have e : i.fdiv j = i / j := Int.fdiv_eq_ediv_of_nonneg i (by omega)
      show Q (.int (i / j)) H
      rw [← e]
      exact hw.int S
  · rw [binR_seq e] at hw
    unfold seqOp at hw
    split at hw <;> first | exact False.elim hw | (rename_i h; cases h)
theorem om_pow : OpM T X W (binaryOp .Pow) (binR .pow) := by
  refine OpM.of op_pow fun B g H H0 σ sd x y v u Q S R1 R2 hw => ?_
  rcases @ints_or x y with ⟨i, j, e1, e2⟩ | e
  · rw [binR_int e1 e2] at hw
    obtain ⟨hz, hw⟩ := wp_guard ((M.wp_bind _ _ _ _).mp hw)
    have hw : PR X.K T B σ sd Q g H (rI (i ^ j.toNat)) := hw
    simp only [Bool.and_eq_true, decide_eq_true_eq] at hz
    obtain ⟨⟨h1, h2⟩, h3⟩ := hz
    exact ⟨i, j, R1.int e1, R2.int e2, ⟨h1, h2, h3⟩, hw.int S⟩
  · rw [binR_seq e] at hw
    unfold seqOp at hw
    split at hw <;> first | exact False.elim hw | (rename_i h; cases h)
def opOf : Bop → Operator
  | .add => .Add
  | .sub => .Sub
  | .mul => .Mult
  | .fdiv => .FloorDiv
  | .mod => .Mod
  | .pow => .Pow
theorem om_bin : ∀ o : Bop, OpM T X W (binaryOp (opOf o)) (binR o)
  | .add => om_add
  | .sub => om_sub
  | .mul => om_mul
  | .fdiv => om_fdiv
  | .mod => om_mod
  | .pow => om_pow
end
end Rf

set_option Elab.async false
set_option linter.all false
set_option maxRecDepth 100000
set_option maxHeartbeats 1000000
/-! R4: comparisons, truth, tests, places and slices. -/
namespace Rf
open PySem PySem.Spec PyProof.Rows L2

/-- there is room around X, and no repr runs -/
structure XU (X : Cx) : Prop where
  un : X.A.units + 200 < cLine
  gd : X.A.guards = some []
/-- .. and no error is being met -/
structure XG (X : Cx) : Prop extends XU X where
  nd : X.N.Nodup
  calm : X.calm = true

section
variable {X : Cx} {pins : List (Addr × Obj)} {σ : L2.St} {H Z : Hp} {s : Shared}
mutual
theorem RD.reads (I : L2.Inv X pins σ H s) (e : Same Z H) : ∀ (d : PyData) {v : V} {u : Value}, RD X.K Z v d → RelV v u → ∃ as, Reads s.heap u d as
  | .none, v, u, h, r => by
    cases h
    cases r
    exact ⟨_, .none⟩
  | .bool b, v, u, h, r => by
    cases h
    cases r
    exact ⟨_, .bool b⟩
  | .int i, v, u, h, r => by
    cases h
    obtain ⟨t, rfl⟩ := r
    exact ⟨_, .int i t⟩
  | .str x, v, u, h, r => by
    cases h
    obtain ⟨t, rfl⟩ := r
    exact ⟨_, .str x t⟩
  | .list ds, v, u, h, r => by
    cases h with
    | lst q t =>
      cases r
      obtain ⟨its, rv, ⟨o, n, ho, hc, _, hd⟩, _⟩ := I.list (e.seq q)
      obtain ⟨as, hr⟩ := RDs.reads I e ds t rv
      exact ⟨_, .list ho hc hd hr⟩
  | .tuple ds, v, u, h, r => by
    cases h with
    | tup q t =>
      cases r
      obtain ⟨its, rv, ⟨o, ho, hc, n, hd⟩, _⟩ := I.tuple (Same.seqT e q)
      obtain ⟨as, hr⟩ := RDs.reads I e ds t rv
      exact ⟨_, .tuple ho hc hd hr⟩
  | .dict ds, v, u, h, r => by
    cases h with
    | dct q =>
      cases r
      obtain ⟨_, _, vs, hv, o, es, ep, ho, hx, hd, _, hp, _⟩ := I.hok _ _ (e _ _ q)
      cases hv
      have hl : es.toList = [] := by
        cases q : es.toList with
        | nil => rfl
        | cons a l =>
          rw [q] at hp
          cases hp
      exact ⟨_, .dict (kvs := []) ho hx.1 hd (by rw [hl]; exact .nil) (by rw [hl]; exact .nil)⟩
theorem RDs.reads (I : L2.Inv X pins σ H s) (e : Same Z H) : ∀ (ds : List PyData) {vs : List V} {us : List Value}, RDs X.K Z vs ds → Vals vs us → ∃ as, ReadsAll s.heap us ds as
  | [], vs, us, h, r => by
    cases h
    cases r
    exact ⟨_, .nil⟩
  | d :: ds, vs, us, h, r => by
    cases h with
    | cons h1 h2 =>
      cases r with
      | cons r1 r2 =>
        obtain ⟨as, q1⟩ := RD.reads I e d h1 r1
        obtain ⟨bs, q2⟩ := RDs.reads I e ds h2 r2
        exact ⟨_, .cons q1 q2⟩
end
end

section
variable {T : Tab} {X : Cx} {W : WX} {B : Bs} {pos : Pos}
/-- any data that a result is, to be read in the heap -/
theorem ResV.reads {B : Bs} {σ : L2.St} {sd : Sl} {H0 H : Hp} {g : Gh} {v : V} {x : Res} {d : PyData} {pins : List (Addr × Obj)} {s : Shared} {u : Value} (S : SR X.K T B g H σ sd) (h : ResV X.K T B σ sd H0 g H v x) (e : x.data = some d)
    (I : L2.Inv X pins σ H s) (r : RelV v u) : ∃ as, Reads s.heap u d as := by
  unfold Res.data at e
  split at e
  · cases e
    cases h with
    | p h => exact h.reads I S.good.zs d r
  · cases e
    obtain ⟨a, e1, ⟨_, _, vs, e2, q⟩, _⟩ := h
    subst e1
    cases r
    obtain ⟨its, rv, ⟨o, n, ho, hc, _, hd⟩, _⟩ := I.list (.inl (.inl e2))
    obtain ⟨as, hr⟩ := RDs.reads I S.good.zs _ q rv
    exact ⟨_, .list ho hc hd hr⟩
  · cases e
theorem cmpR_int {o : Cop} {x y : Res} {i j : Int} (e1 : x.int = some i) (e2 : y.int = some j) : cmpR o x y = .guard (!o.mem) (.ret (cmpI o i j)) := by
  unfold cmpR
  rw [e1, e2]
theorem cmpR_data {o : Cop} {x y : Res} (e : x.int = none ∨ y.int = none) : cmpR o x y = (match x.data, y.data with
    | some d, some e => cmpD o d e
    | _, _ => .stuck) := by
  unfold cmpR
  rcases e with e | e
  · rw [e]
    try rfl
  · rw [e]
    generalize x.int = w
    cases w <;> rfl
theorem wp_data {α : Type} {x y : Res} {f : PyData → PyData → M α} {P : α → Prop} {E : Nat → Option PyData → Prop} (h : (match x.data, y.data with
    | some d, some e => f d e
    | _, _ => .stuck).wp P E) : ∃ d e, x.data = some d ∧ y.data = some e ∧ (f d e).wp P E := by
  split at h
  · rename_i e1 e2
    exact ⟨_, _, e1, e2, h⟩
  · exact False.elim h
def copOf : Cop → CmpOp
  | .eq => .Eq
  | .ne => .NotEq
  | .lt => .Lt
  | .le => .LtE
  | .gt => .Gt
  | .ge => .GtE
  | .inn => .In
  | .nin => .NotIn
  | .isb => .Is
  | .isnb => .IsNot
abbrev bR (f : Res → Res → M Bool) (x y : Res) : M Res := (f x y).bind fun k => .ret (rB k)
theorem cmp_int {o : Cop} (hm : (!o.mem) = true) : OpR X (compareOp (copOf o)) (rI0 fun i j => .bl (cmpI o i j)) := by
  cases o
  · exact opB0 fun i j t u s Q E h => eq_int (by rw [Bool.beq_eq_decide_eq]; exact h)
  · exact opB0 fun i j t u s Q E h => ne_int (by rw [bne, Bool.beq_eq_decide_eq]; exact h)
  · exact op_lt
  · exact op_le
  · exact op_gt
  · exact op_ge
  · cases hm
  · cases hm
  · cases hm
  · cases hm
theorem bool_beq (a b : Bool) : (Value.bool a == Value.bool b) = (a == b) := by cases a <;> cases b <;> rfl
theorem om_cmp (U : XU X) (o : Cop) : OpM T X W (compareOp (copOf o)) (bR (cmpR o)) := by
  intro B g H H0 σ sd x y v u Q S R1 R2 hw pins s ov ou I r1 r2
  have hw := (M.wp_bind _ _ _ _).mp hw
  rcases @ints_or x y with ⟨i, j, e1, e2⟩ | e
  · rw [cmpR_int e1 e2] at hw
    obtain ⟨hm, hw⟩ := wp_guard hw
    have hw : PR X.K T B σ sd Q g H (rB (cmpI o i j)) := hw
    exact cmp_int hm pins s σ H v u ov ou Q I r1 r2 ⟨i, j, R1.int e1, R2.int e2, hw.bl S⟩
  · rw [cmpR_data e] at hw
    obtain ⟨d, e, e1, e2, hw⟩ := wp_data hw
    obtain ⟨as, q1⟩ := R1.reads S e1 I r1
    obtain ⟨bs, q2⟩ := R2.reads S e2 I r2
    have un := U.un
    have fin : ∀ {b : Bool}, PR X.K T B σ sd Q g H (rB b) → EP X pins σ Q (.bool b) s := fun {b} h => ⟨.bl b, H, I, rfl, h.bl S⟩
    cases o with
    | eq =>
      obtain ⟨hz, hw⟩ := wp_guard hw
      rw [Bool.and_eq_true] at hz
      exact SeqAt.compareEq_shaped q1 q2 hz.1 hz.2 (by omega) (fin hw)
    | ne =>
      obtain ⟨hz, hw⟩ := wp_guard hw
      rw [Bool.and_eq_true] at hz
      exact SeqAt.compareNe_shaped q1 q2 hz.1 hz.2 (by omega) (fin hw)
    | lt =>
      obtain ⟨hz, hw⟩ := wp_guard hw
      simp only [Bool.and_eq_true, decide_eq_true_eq] at hz
      obtain ⟨⟨h1, h2⟩, h3⟩ := hz
      have un2 : X.A.units + min d.depth e.depth < cLine := by omega
      exact PySem.W.rcLt_alike d e X.A s ov ou as bs q1 q2 h1 (fun z => by subst z; cases h2) un2 X.prog X.w X.xe _ (fin hw)
    | le => exact False.elim hw
    | gt => exact False.elim hw
    | ge => exact False.elim hw
    | inn =>
      obtain ⟨ys, ey, hw1⟩ := wp_ofOpt hw
      obtain ⟨hz, hw2⟩ := wp_guard hw1
      rw [Bool.and_eq_true] at hz
      obtain ⟨h1, h2⟩ := hz
      unfold shapedD at h1
      rw [Bool.and_eq_true, decide_eq_true_eq] at h1
      have hu : X.A.units + 1 + min (PyData.depthAll ys) d.depth < cLine := by omega
      cases e with
      | list zs =>
        cases ey
        exact SeqAt.in_list_reads q2 q1 h2 h1.1 hu (fin hw2)
      | tuple zs =>
        cases ey
        exact SeqAt.in_tuple_reads q2 q1 h2 h1.1 hu (fin hw2)
      | _ => cases ey
    | nin =>
      obtain ⟨ys, ey, hw1⟩ := wp_ofOpt hw
      obtain ⟨hz, hw2⟩ := wp_guard hw1
      rw [Bool.and_eq_true] at hz
      obtain ⟨h1, h2⟩ := hz
      unfold shapedD at h1
      rw [Bool.and_eq_true, decide_eq_true_eq] at h1
      have hu : X.A.units + 1 + min (PyData.depthAll ys) d.depth < cLine := by omega
      cases e with
      | list zs =>
        cases ey
        exact SeqAt.notIn_list_reads q2 q1 h2 h1.1 hu (fin hw2)
      | tuple zs =>
        cases ey
        exact SeqAt.notIn_tuple_reads q2 q1 h2 h1.1 hu (fin hw2)
      | _ => cases ey
    | isb =>
      cases d with
      | bool a =>
        cases e with
        | bool b =>
          have hw : PR X.K T B σ sd Q g H (rB (a == b)) := hw
          cases q1
          cases q2
          exact wpAny_is_plain rfl (by rw [bool_beq]; exact fin hw)
        | _ => exact False.elim hw
      | _ => exact False.elim hw
    | isnb =>
      cases d with
      | bool a =>
        cases e with
        | bool b =>
          have hw : PR X.K T B σ sd Q g H (rB (!(a == b))) := hw
          cases q1
          cases q2
          exact wpAny_isNot_plain rfl (by rw [bool_beq]; exact fin hw)
        | _ => exact False.elim hw
      | _ => exact False.elim hw

/-! ### one-place operators -/
theorem ee_neg {a : Expr} {ma : Sl → M Res} (h1 : EE T X W B a ma) : EE T X W B (.UnaryOp .USub a pos) fun s => (ma s).bind fun x => (M.ofOpt x.int).bind fun i => .ret (rI (-i)) := by
  refine ⟨fun pins s σ H Q I h => ?_⟩
  obtain ⟨g, sd, S, hw⟩ := h
  refine (pe_un un_neg h1).run pins s σ H Q I ?_
  refine tE.step S hw fun v g1 H1 x st S1 R hk => ?_
  obtain ⟨i, e, hk⟩ := wp_ofOpt hk
  exact ⟨i, R.int e, PR.int (PR.weak hk st) S1⟩
theorem str_small {x : Str} (h : x.length ≤ 16777216) : x.length ≤ sizeLine := by rw [sizeLine_eq]; exact h
theorem ResV.tru {B : Bs} {σ : L2.St} {sd : Sl} {H0 H : Hp} {g : Gh} {v : V} {x : Res} {k : Bool} (S : SR X.K T B g H σ sd) (h : ResV X.K T B σ sd H0 g H v x) (e : x.truth = some k) : TruV X.K v H k := by
  have em : ∀ {vs : List V} {ds : List PyData}, RDs X.K g.Z vs ds → (!ds.isEmpty) = !vs.isEmpty := fun r => by cases r <;> rfl
  unfold Res.truth at e
  split at e
  · cases e
    cases h with | p h => cases h; rfl
  · cases e
    cases h with | p h => cases h; rfl
  · cases e
    cases h with | p h => cases h; rfl
  · split at e
    · rename_i hz
      cases e
      rw [h.strD]
      exact ⟨str_small hz, rfl⟩
    · cases e
  · cases e
    obtain ⟨a, vs, rfl, q, r⟩ := h.lstD
    exact .inl ⟨vs, S.sqL q, em r⟩
  · cases e
    obtain ⟨a, vs, rfl, q, r⟩ := h.tupD
    exact .inr (.inl ⟨vs, S.sqT q, em r⟩)
  · cases e
    obtain ⟨a, vs, rfl, q, r⟩ := h.mtD
    exact .inr (.inl ⟨vs, S.sqT q, by cases r <;> rfl⟩)
  · cases e
    obtain ⟨a, rfl, ⟨_, _, vs, e2, r⟩, _⟩ := h
    exact .inl ⟨vs, .inl (.inl e2), em r⟩
  · cases e
theorem ee_not {a : Expr} {ma : Sl → M Res} (h1 : EE T X W B a ma) : EE T X W B (.UnaryOp .Not a pos) fun s => (ma s).bind fun x => (M.ofOpt x.truth).bind fun k => .ret (rB (!k)) := by
  refine ⟨fun pins s σ H Q I h => ?_⟩
  obtain ⟨g, sd, S, hw⟩ := h
  refine (pe_notT h1).run pins s σ H Q I ?_
  refine tE.step S hw fun v g1 H1 x st S1 R hk => ?_
  obtain ⟨k, e, hk⟩ := wp_ofOpt hk
  exact ⟨k, R.tru S1 e, PR.bl (PR.weak hk st) S1⟩
theorem ee_one {o : BoolOp} {a : Expr} {ma : Sl → M Res} (h1 : EE T X W B a ma) : EE T X W B (.BoolOp o [a] pos) ma := pe_one h1
theorem ee_and {a b : Expr} {rest : List Expr} {ma mb : Sl → M Res} (h1 : EE T X W B a ma) (h2 : EE T X W B (.BoolOp .And (b :: rest) pos) mb) :
    EE T X W B (.BoolOp .And (a :: b :: rest) pos) fun s => (ma s).bind fun x => (M.ofOpt x.bool).bind fun k => cond k (mb s) (.ret (rB false)) := by
  refine ⟨fun pins s σ H Q I h => ?_⟩
  obtain ⟨g, sd, S, hw⟩ := h
  refine (pe_and h1 h2).run pins s σ H Q I ?_
  refine tE.step S hw fun v g1 H1 x st S1 R hk => ?_
  obtain ⟨k, e, hk⟩ := wp_ofOpt hk
  refine ⟨k, R.bool e, ?_⟩
  cases k with
  | true => exact ⟨g1, sd, S1, wkE hk st⟩
  | false => exact PR.bl (PR.weak hk st) S1
theorem ee_or {a b : Expr} {rest : List Expr} {ma mb : Sl → M Res} (h1 : EE T X W B a ma) (h2 : EE T X W B (.BoolOp .Or (b :: rest) pos) mb) :
    EE T X W B (.BoolOp .Or (a :: b :: rest) pos) fun s => (ma s).bind fun x => (M.ofOpt x.bool).bind fun k => cond k (.ret (rB true)) (mb s) := by
  refine ⟨fun pins s σ H Q I h => ?_⟩
  obtain ⟨g, sd, S, hw⟩ := h
  refine (pe_or h1 h2).run pins s σ H Q I ?_
  refine tE.step S hw fun v g1 H1 x st S1 R hk => ?_
  obtain ⟨k, e, hk⟩ := wp_ofOpt hk
  refine ⟨k, R.bool e, ?_⟩
  cases k with
  | true => exact PR.bl (PR.weak hk st) S1
  | false => exact ⟨g1, sd, S1, wkE hk st⟩
theorem ee_ife {c a b : Expr} {mc : Sl → M Bool} {ma mb : Sl → M Res} (hc : ET T X W B c mc) (h1 : EE T X W B a ma) (h2 : EE T X W B b mb) :
    EE T X W B (.IfExp c a b pos) fun s => (mc s).bind fun k => cond k (ma s) (mb s) := by
  refine ⟨fun pins s σ H Q I h => ?_⟩
  obtain ⟨g, sd, S, hw⟩ := h
  refine (pe_ifExp hc h1 h2).run pins s σ H Q I ?_
  refine tT.step S hw fun k g1 H1 st S1 hk => ?_
  cases k with
  | true => exact ⟨g1, sd, S1, wkE hk st⟩
  | false => exact ⟨g1, sd, S1, wkE hk st⟩
theorem isN_of {B : Bs} {σ : L2.St} {sd : Sl} {H0 H : Hp} {g : Gh} {v : V} {x : Res} {k : Bool} (h : ResV X.K T B σ sd H0 g H v x) (e : isN x = some k) : decide (v = .non) = k := by
  cases x with
  | l fr xs =>
    obtain ⟨a, rfl, _⟩ := h
    cases e
    rfl
  | v y =>
    cases h with
    | p h => cases h <;> cases e <;> rfl
    | fn _ => cases e
    | dice _ => cases e; rfl
    | mt _ _ => cases e; rfl
theorem ee_isn {a : Expr} {ma : Sl → M Res} {p : Pos} {j : Nat} (h1 : EE T X W B a ma) : EE T X W B (.Compare a [.Is] [.Constant .none j p] pos) fun s => (ma s).bind fun x => (isNM false x).bind fun k => .ret (rB k) := by
  refine ⟨fun pins s σ H Q I h => ?_⟩
  obtain ⟨g, sd, S, hw⟩ := h
  refine (pe_cmp (pc_isN h1)).run pins s σ H Q I ?_
  refine tE.step S hw fun v g1 H1 x st S1 R hk => ?_
  unfold isNM at hk
  rw [M.wp_bind] at hk
  obtain ⟨k, e, hk⟩ := wp_ofOpt hk
  rw [isN_of R e]
  have hk : PR X.K T B σ sd Q g H (rB (xor false k)) := hk
  exact PR.bl (PR.weak (by simpa using hk) st) S1
theorem ee_isnn {a : Expr} {ma : Sl → M Res} {p : Pos} {j : Nat} (h1 : EE T X W B a ma) : EE T X W B (.Compare a [.IsNot] [.Constant .none j p] pos) fun s => (ma s).bind fun x => (isNM true x).bind fun k => .ret (rB k) := by
  refine ⟨fun pins s σ H Q I h => ?_⟩
  obtain ⟨g, sd, S, hw⟩ := h
  refine (pe_cmp (pc_notN h1)).run pins s σ H Q I ?_
  refine tE.step S hw fun v g1 H1 x st S1 R hk => ?_
  unfold isNM at hk
  rw [M.wp_bind] at hk
  obtain ⟨k, e, hk⟩ := wp_ofOpt hk
  rw [isN_of R e]
  have hk : PR X.K T B σ sd Q g H (rB (xor true k)) := hk
  exact PR.bl (PR.weak (by simpa using hk) st) S1

/-! ### tests -/
/-- a test by the value's truth -/
theorem et_truth {a : Expr} {ma : Sl → M Res} (h1 : EE T X W B a ma) (he : ∀ whole, isTrue a X.env whole = (do let v ← whole; standAt a.pos; holding [v] (truthy v))) : ET T X W B a fun s => (ma s).bind truthM := by
  refine ⟨fun pins s σ H Q I h => ?_⟩
  obtain ⟨g, sd, S, hw⟩ := h
  refine (pt_truth h1 he).run pins s σ H Q I ?_
  refine tE.step S hw fun v g1 H1 x st S1 R hk => ?_
  obtain ⟨k, e, hk⟩ := wp_ofOpt' hk
  exact ⟨k, R.tru S1 e, hk g1 H1 st S1⟩
theorem et_not {a : Expr} {ma : Sl → M Bool} (h1 : ET T X W B a ma) : ET T X W B (.UnaryOp .Not a pos) fun s => (ma s).bind fun k => .ret (!k) := by
  refine ⟨fun pins s σ H Q I h => ?_⟩
  obtain ⟨g, sd, S, hw⟩ := h
  refine (pt_not h1).run pins s σ H Q I ?_
  exact tT.step S hw fun k g1 H1 st S1 hk => (show PB X.K T B σ sd Q g H (!k) from hk) g1 H1 st S1
/-- a test whatever the whole is -/
def EW (T : Tab) (X : Cx) (W : WX) (B : Bs) (e : Expr) (m : Sl → M Bool) : Prop := PW X e (tT X.K T B W m)
theorem ew_et {e : Expr} {m : Sl → M Bool} (h : EW T X W B e m) : ET T X W B e m := h.pt
theorem ew_and1 {a : Expr} {ma : Sl → M Bool} (h1 : ET T X W B a ma) : EW T X W B (.BoolOp .And [a] pos) ma := pw_and1 h1
theorem ew_or1 {a : Expr} {ma : Sl → M Bool} (h1 : ET T X W B a ma) : EW T X W B (.BoolOp .Or [a] pos) ma := pw_or1 h1
theorem ew_and {a b : Expr} {rest : List Expr} {ma mb : Sl → M Bool} (h1 : ET T X W B a ma) (h2 : EW T X W B (.BoolOp .And (b :: rest) pos) mb) :
    EW T X W B (.BoolOp .And (a :: b :: rest) pos) fun s => (ma s).bind fun k => cond k (mb s) (.ret false) := by
  refine ⟨fun wh pins s σ H Q I h => ?_⟩
  obtain ⟨g, sd, S, hw⟩ := h
  refine (pw_and h1 h2).run wh pins s σ H Q I ?_
  refine tT.step S hw fun k g1 H1 st S1 hk => ?_
  cases k with
  | true => exact ⟨g1, sd, S1, wkB hk st⟩
  | false => exact (show PB X.K T B σ sd Q g H false from hk) g1 H1 st S1
theorem ew_or {a b : Expr} {rest : List Expr} {ma mb : Sl → M Bool} (h1 : ET T X W B a ma) (h2 : EW T X W B (.BoolOp .Or (b :: rest) pos) mb) :
    EW T X W B (.BoolOp .Or (a :: b :: rest) pos) fun s => (ma s).bind fun k => cond k (.ret true) (mb s) := by
  refine ⟨fun wh pins s σ H Q I h => ?_⟩
  obtain ⟨g, sd, S, hw⟩ := h
  refine (pw_or h1 h2).run wh pins s σ H Q I ?_
  refine tT.step S hw fun k g1 H1 st S1 hk => ?_
  cases k with
  | true => exact (show PB X.K T B σ sd Q g H true from hk) g1 H1 st S1
  | false => exact ⟨g1, sd, S1, wkB hk st⟩
theorem et_cmp {o : CmpOp} {f : Res → Res → M Bool} {a b : Expr} {ma mb : Sl → M Res} (hop : OpM T X W (compareOp o) (bR f)) (h1 : EE T X W B a ma) (h2 : EE T X W B b mb) (hm : behindInMarks o b = false) :
    ET T X W B (.Compare a [o] [b] pos) fun s => (ma s).bind fun x => (mb s).bind fun y => f x y := by
  refine ⟨fun pins s σ H Q I h => ?_⟩
  obtain ⟨g, sd, S, hw⟩ := h
  refine wpAny_isTrue_Compare1 (thn (h1.run pins s σ H (fun v H1 => ∃ g1 x, Step g H g1 H1 ∧ SR X.K T B g1 H1 σ sd ∧ ResV X.K T B σ sd H g1 H1 v x ∧ ((mb sd).bind fun y => f x y).wp (PB X.K T B σ sd Q g H) (PX X.K T B W σ sd g H)) I
    (tE.step S hw fun v g1 H1 x st S1 R hk => ⟨g1, x, st, S1, R, hk⟩)) fun ov s1 ⟨v, H1, I1, r1, g1, x, st, S1, R, hk⟩ => ?_) hm
  refine thn (h2.run pins s1 σ H1 (fun u H2 => ∃ g2 y, Step g1 H1 g2 H2 ∧ SR X.K T B g2 H2 σ sd ∧ ResV X.K T B σ sd H1 g2 H2 u y ∧ (f x y).wp (PB X.K T B σ sd Q g H) (PX X.K T B W σ sd g1 H1)) I1
    (tE.step S1 (wkX hk st) fun u g2 H2 y st2 S2 R2 hk2 => ⟨g2, y, st2, S2, R2, hk2⟩)) fun ou s2 ⟨u, H2, I2, r2, g2, y, st2, S2, R2, hk2⟩ => ?_
  refine thn (hop B g2 H2 H σ sd x y v u (fun z H3 => ∃ k g3, z = .bl k ∧ Step g2 H2 g3 H3 ∧ SR X.K T B g3 H3 σ sd ∧ PB X.K T B σ sd Q g H k) S2 (R.step st2) (R2.back fun a e => st.none e) ?_ pins s2 ov ou I2 r1 r2) fun w s3 ⟨z, H3, I3, r3, k, g3, ez, st3, S3, hq⟩ => ?_
  · refine (M.wp_bind _ _ _ _).mpr (M.wp_mono _ hk2 (fun k hq => ?_) fun _ _ z => PX.weak z st2)
    intro z g3 H3 st3 S3 R3
    exact ⟨k, g3, R3.bool rfl, st3, S3, hq⟩
  · subst ez
    cases r3
    exact wpAny_truthy_bool ⟨H3, I3, hq g3 H3 ((st.trans st2).trans st3) S3⟩

/-! ### a op b op c -/
theorem ee_cmp2 {o o' : CmpOp} {f f' : Res → Res → M Bool} {a b c : Expr} {ma mb mc : Sl → M Res} (hop : OpM T X W (compareOp o) (bR f)) (hop' : OpM T X W (compareOp o') (bR f')) (h1 : EE T X W B a ma) (h2 : EE T X W B b mb) (h3 : EE T X W B c mc) (hm : lastMarks [o, o'] [b, c] = false) :
    EE T X W B (.Compare a [o, o'] [b, c] pos) fun s => (ma s).bind fun x => (mb s).bind fun y => (f x y).bind fun k => cond k ((mc s).bind fun z => bR f' y z) (.ret (rB false)) := by
  refine ⟨fun pins s σ H Q I h => ?_⟩
  obtain ⟨g, sd, S, hw⟩ := h
  refine Compare_chain (thn (h1.run pins s σ H (fun v H1 => ∃ g1 x, Step g H g1 H1 ∧ SR X.K T B g1 H1 σ sd ∧ ResV X.K T B σ sd H g1 H1 v x ∧ ((mb sd).bind fun y => (f x y).bind fun k => cond k ((mc sd).bind fun z => bR f' y z) (.ret (rB false))).wp (PR X.K T B σ sd Q g H) (PX X.K T B W σ sd g H)) I
    (tE.step S hw fun v g1 H1 x st S1 R hk => ⟨g1, x, st, S1, R, hk⟩)) fun ov s1 ⟨v, H1, I1, r1, g1, x, st, S1, R, hk⟩ => chain_link ?_) hm
  refine thn (h2.run pins s1 σ H1 (fun u H2 => ∃ g2 y, Step g1 H1 g2 H2 ∧ SR X.K T B g2 H2 σ sd ∧ ResV X.K T B σ sd H1 g2 H2 u y ∧ ((f x y).bind fun k => cond k ((mc sd).bind fun z => bR f' y z) (.ret (rB false))).wp (PR X.K T B σ sd Q g H) (PX X.K T B W σ sd g1 H1)) I1
    (tE.step S1 (wkX hk st) fun u g2 H2 y st2 S2 R2 hk2 => ⟨g2, y, st2, S2, R2, hk2⟩)) fun ou s2 ⟨u, H2, I2, r2, g2, y, st2, S2, R2, hk2⟩ => ?_
  refine thn (hop B g2 H2 H σ sd x y v u (fun z H3 => ∃ k g3, z = .bl k ∧ Step g2 H2 g3 H3 ∧ SR X.K T B g3 H3 σ sd ∧ (cond k ((mc sd).bind fun z => bR f' y z) (.ret (rB false))).wp (PR X.K T B σ sd Q g H) (PX X.K T B W σ sd g2 H2)) S2 (R.step st2) (R2.back fun a e => st.none e) ?_ pins s2 ov ou I2 r1 r2) fun w s3 ⟨z, H3, I3, r3, k, g3, ez, st3, S3, hq⟩ => ?_
  · refine (M.wp_bind _ _ _ _).mpr (M.wp_mono _ ((M.wp_bind _ _ _ _).mp (wkX hk2 st2)) (fun k hq => ?_) fun _ _ z => z)
    intro z g3 H3 st3 S3 R3
    exact ⟨k, g3, R3.bool rfl, st3, S3, hq⟩
  · subst ez
    cases r3
    refine wpAny_truthy_bool ?_
    have st13 := (st.trans st2).trans st3
    cases k with
    | false => exact ite_ff ⟨.bl false, H3, I3, rfl, PR.bl (PR.weak hq st13) S3⟩
    | true =>
      refine ite_tt (chain_last (thn (h3.run pins s3 σ H3 (fun t H4 => ∃ g4 z, Step g3 H3 g4 H4 ∧ SR X.K T B g4 H4 σ sd ∧ ResV X.K T B σ sd H3 g4 H4 t z ∧ (bR f' y z).wp (PR X.K T B σ sd Q g H) (PX X.K T B W σ sd g3 H3)) I3
        (tE.step S3 (wkX hq st3) fun t g4 H4 z st4 S4 R4 hk4 => ⟨g4, z, st4, S4, R4, hk4⟩)) fun ot s4 ⟨t, H4, I4, r4, g4, z, st4, S4, R4, hk4⟩ => ?_))
      refine hop' B g4 H4 H1 σ sd y z u t Q S4 (R2.step (st3.trans st4)) (R4.back fun a e => (st2.trans st3).none e) ?_ pins s4 ou ot I4 r2 r4
      exact M.wp_mono _ hk4 (fun _ z => PR.weak z (st13.trans st4)) fun _ _ z => PX.weak z st4
theorem et_cmp2 {o o' : CmpOp} {f f' : Res → Res → M Bool} {a b c : Expr} {ma mb mc : Sl → M Res} (hop : OpM T X W (compareOp o) (bR f)) (hop' : OpM T X W (compareOp o') (bR f')) (h1 : EE T X W B a ma) (h2 : EE T X W B b mb) (h3 : EE T X W B c mc) (hm : lastMarks [o, o'] [b, c] = false) :
    ET T X W B (.Compare a [o, o'] [b, c] pos) fun s => (ma s).bind fun x => (mb s).bind fun y => (f x y).bind fun k => cond k ((mc s).bind fun z => f' y z) (.ret false) := by
  refine ⟨fun pins s σ H Q I h => ?_⟩
  obtain ⟨g, sd, S, hw⟩ := h
  refine isTrue_chain (thn (h1.run pins s σ H (fun v H1 => ∃ g1 x, Step g H g1 H1 ∧ SR X.K T B g1 H1 σ sd ∧ ResV X.K T B σ sd H g1 H1 v x ∧ ((mb sd).bind fun y => (f x y).bind fun k => cond k ((mc sd).bind fun z => f' y z) (.ret false)).wp (PB X.K T B σ sd Q g H) (PX X.K T B W σ sd g H)) I
    (tE.step S hw fun v g1 H1 x st S1 R hk => ⟨g1, x, st, S1, R, hk⟩)) fun ov s1 ⟨v, H1, I1, r1, g1, x, st, S1, R, hk⟩ => test_link ?_) hm
  refine thn (h2.run pins s1 σ H1 (fun u H2 => ∃ g2 y, Step g1 H1 g2 H2 ∧ SR X.K T B g2 H2 σ sd ∧ ResV X.K T B σ sd H1 g2 H2 u y ∧ ((f x y).bind fun k => cond k ((mc sd).bind fun z => f' y z) (.ret false)).wp (PB X.K T B σ sd Q g H) (PX X.K T B W σ sd g1 H1)) I1
    (tE.step S1 (wkX hk st) fun u g2 H2 y st2 S2 R2 hk2 => ⟨g2, y, st2, S2, R2, hk2⟩)) fun ou s2 ⟨u, H2, I2, r2, g2, y, st2, S2, R2, hk2⟩ => ?_
  refine thn (hop B g2 H2 H σ sd x y v u (fun z H3 => ∃ k g3, z = .bl k ∧ Step g2 H2 g3 H3 ∧ SR X.K T B g3 H3 σ sd ∧ (cond k ((mc sd).bind fun z => f' y z) (.ret false)).wp (PB X.K T B σ sd Q g H) (PX X.K T B W σ sd g2 H2)) S2 (R.step st2) (R2.back fun a e => st.none e) ?_ pins s2 ov ou I2 r1 r2) fun w s3 ⟨z, H3, I3, r3, k, g3, ez, st3, S3, hq⟩ => ?_
  · refine (M.wp_bind _ _ _ _).mpr (M.wp_mono _ ((M.wp_bind _ _ _ _).mp (wkX hk2 st2)) (fun k hq => ?_) fun _ _ z => z)
    intro z g3 H3 st3 S3 R3
    exact ⟨k, g3, R3.bool rfl, st3, S3, hq⟩
  · subst ez
    cases r3
    refine wpAny_truthy_bool ?_
    have st13 := (st.trans st2).trans st3
    cases k with
    | false => exact ite_ff ⟨H3, I3, (show PB X.K T B σ sd Q g H false from hq) g3 H3 st13 S3⟩
    | true =>
      refine ite_tt (test_last (thn (h3.run pins s3 σ H3 (fun t H4 => ∃ g4 z, Step g3 H3 g4 H4 ∧ SR X.K T B g4 H4 σ sd ∧ ResV X.K T B σ sd H3 g4 H4 t z ∧ (f' y z).wp (PB X.K T B σ sd Q g H) (PX X.K T B W σ sd g3 H3)) I3
        (tE.step S3 (wkX hq st3) fun t g4 H4 z st4 S4 R4 hk4 => ⟨g4, z, st4, S4, R4, hk4⟩)) fun ot s4 ⟨t, H4, I4, r4, g4, z, st4, S4, R4, hk4⟩ => ?_))
      refine thn (hop' B g4 H4 H1 σ sd y z u t (fun z H5 => ∃ k g5, z = .bl k ∧ Step g4 H4 g5 H5 ∧ SR X.K T B g5 H5 σ sd ∧ PB X.K T B σ sd Q g H k) S4 (R2.step (st3.trans st4)) (R4.back fun a e => (st2.trans st3).none e) ?_ pins s4 ou ot I4 r2 r4) fun w5 s5 ⟨z5, H5, I5, r5, k, g5, e5, st5, S5, hq5⟩ => ?_
      · refine (M.wp_bind _ _ _ _).mpr (M.wp_mono _ hk4 (fun k hq => ?_) fun _ _ z => PX.weak z st4)
        intro z g5 H5 st5 S5 R5
        exact ⟨k, g5, R5.bool rfl, st5, S5, hq⟩
      · subst e5
        cases r5
        exact wpAny_truthy_bool ⟨H5, I5, hq5 g5 H5 ((st13.trans st4).trans st5) S5⟩

/-! ### places, slices -/
theorem atI_len {α β : Type} {xs : List α} {ys : List β} {i : Int} {x : α} (h : xs.length = ys.length) (e : atI xs i = some x) : ∃ j, ixN ys.length i = some j ∧ xs[j]? = some x := by
  unfold atI at e
  rw [h] at e
  cases q : ixN ys.length i with
  | none => rw [q] at e; cases e
  | some j => rw [q] at e; exact ⟨j, rfl, e⟩
theorem ee_idx {a b : Expr} {ma mb : Sl → M Res} (h1 : EE T X W B a ma) (h2 : EE T X W B b mb) (hs : PlainIx b) :
    EE T X W B (.Subscript a b pos) fun s => (ma s).bind fun x => (mb s).bind fun y => idxR x y := by
  refine ⟨fun pins s σ H Q I h => ?_⟩
  obtain ⟨g, sd, S, hw⟩ := h
  refine (pe_ix ix_seq h1 h2 hs).run pins s σ H Q I ?_
  refine tE.step S hw fun v g1 H1 x st S1 R hk => ?_
  refine tE.step S1 (wkX hk st) fun u g2 H2 y st2 S2 R2 hk2 => ?_
  unfold idxR at hk2
  split at hk2
  · rename_i xs i e1 e2
    obtain ⟨z, ez, hk2⟩ := wp_ofOpt hk2
    have hk2 : PR X.K T B σ sd Q g H (.v z) := hk2
    obtain ⟨p, vs, rfl, q, r⟩ := (R.step st2).its S2 e1
    obtain ⟨j, ej, ex⟩ := atI_len r.len.symm ez
    obtain ⟨t, et, rt⟩ := r.get ex
    have ea : atI vs i = some t := by
      unfold atI
      rw [ej]
      exact et
    have fin := (PR.weak hk2 (st.trans st2)).atV S2 rt
    rcases q with q | q
    · exact .inl ⟨p, vs, i, t, rfl, R2.int e2, q, ea, fin⟩
    · exact .inr (.inl ⟨p, vs, i, t, rfl, R2.int e2, q, ea, fin⟩)
  · exact False.elim hk2
end
end Rf

set_option Elab.async false
set_option linter.all false
set_option maxRecDepth 100000
set_option maxHeartbeats 1000000
/-! R5: slices, what is walked, targets, comprehensions. -/
namespace Rf
open PySem PySem.Spec PyProof.Rows L2

section
variable {T : Tab} {X : Cx} {W : WX} {B : Bs} {pos : Pos}
/-! ### slices -/
def PO' (K : PySem.W.Frag) (T : Tab) (B : Bs) (σ : L2.St) (sd : Sl) (Q : Option Int → Hp → Prop) (g : Gh) (H : Hp) (o : Option Int) : Prop := ∀ g' H', Step g H g' H' → SR K T B g' H' σ sd → Q o H'
def tO (K : PySem.W.Frag) (T : Tab) (B : Bs) (W : WX) (m : Sl → M (Option Int)) : TO := fun σ H Q => ∃ g sd, SR K T B g H σ sd ∧ (m sd).wp (PO' K T B σ sd Q g H) (PX K T B W σ sd g H)
def EO (T : Tab) (X : Cx) (W : WX) (B : Bs) (e : Option Expr) (m : Sl → M (Option Int)) : Prop := PO X e (tO X.K T B W m)
theorem eo_none : EO T X W B none fun _ => .ret none := by
  refine ⟨fun pins s σ H Q I h => ?_⟩
  obtain ⟨g, sd, S, hw⟩ := h
  exact po_none.run pins s σ H Q I ((show PO' X.K T B σ sd Q g H none from hw) g H .refl S)
theorem eo_some {e : Expr} {m : Sl → M Res} (h1 : EE T X W B e m) : EO T X W B (some e) fun s => (m s).bind fun r => (M.ofOpt r.int).bind fun i => .ret (some i) := by
  refine ⟨fun pins s σ H Q I h => ?_⟩
  obtain ⟨g, sd, S, hw⟩ := h
  refine (po_some h1).run pins s σ H Q I ?_
  refine tE.step S hw fun v g1 H1 x st S1 R hk => ?_
  obtain ⟨i, e, hk⟩ := wp_ofOpt hk
  exact ⟨i, R.int e, (show PO' X.K T B σ sd Q g H (some i) from hk) g1 H1 st S1⟩
theorem tO.step {α : Type} {K : PySem.W.Frag} {B : Bs} {σ : L2.St} {sd : Sl} {g : Gh} {H : Hp} {m : Sl → M (Option Int)} {k : Option Int → M α} {P : α → Prop} {Q : Option Int → Hp → Prop} (S : SR K T B g H σ sd) (h : ((m sd).bind k).wp P (PX K T B W σ sd g H))
    (hQ : ∀ o g1 H1, Step g H g1 H1 → SR K T B g1 H1 σ sd → (k o).wp P (PX K T B W σ sd g H) → Q o H1) : tO K T B W m σ H Q :=
  ⟨g, sd, S, M.wp_mono _ ((M.wp_bind _ _ _ _).mp h) (fun x hx g1 H1 st S1 => hQ x g1 H1 st S1 hx) fun _ _ hx => hx⟩
theorem RDs.cut {K : PySem.W.Frag} {Z : Hp} {vs : List V} {ds : List PyData} {lo hi : Option Int} (r : RDs K Z vs ds) : RDs K Z (cutV vs lo hi) (cutL ds lo hi) := by
  unfold cutV cutL
  rw [r.len]
  exact (r.drop _).take _
theorem cut_whole {α : Type} {xs : List α} {lo hi : Option Int} (h : HT.sIx xs.length 0 lo = 0 ∧ HT.sIx xs.length xs.length hi = xs.length) : cutL xs lo hi = xs := by
  unfold cutL
  rw [h.1, h.2]
  simp
theorem ee_slc {a : Expr} {lo hi : Option Expr} {p2 : Pos} {ma : Sl → M Res} {ml mh : Sl → M (Option Int)} (h1 : EE T X W B a ma) (h2 : EO T X W B lo ml) (h3 : EO T X W B hi mh) :
    EE T X W B (.Subscript a (.Slice lo hi none p2) pos) fun s => (ma s).bind fun x => (ml s).bind fun l => (mh s).bind fun u => slcR x l u := by
  refine ⟨fun pins s σ H Q I h => ?_⟩
  obtain ⟨g, sd, S, hw⟩ := h
  refine (pe_slice (sl_tupA.or sl_list) h1 h2 h3).run pins s σ H Q I ?_
  refine tE.step S hw fun v g1 H1 x st S1 R hk => ?_
  refine tO.step S1 (wkX hk st) fun l g2 H2 st2 S2 hk2 => ?_
  refine tO.step S2 (wkX hk2 st2) fun u g3 H3 st3 S3 hk3 => ?_
  have R3 := R.step (st2.trans st3)
  have st13 := (st.trans st2).trans st3
  unfold slcR at hk3
  split at hk3
  · rename_i xs
    have hk3 : PR X.K T B σ sd Q g H (.v (.p (.tuple (cutL xs l u)))) := hk3
    obtain ⟨p, vs, rfl, q, r⟩ := R3.tupD
    refine .inl ⟨p, vs, rfl, S3.sqT q, fun hw => ?_, fun _ np nq => PR.newT (PR.weak hk3 st13) S3 nq r.cut⟩
    rw [r.len] at hw
    rw [cut_whole hw] at hk3
    exact PR.atV (PR.weak hk3 st13) S3 (.p (.tup q r))
  · rename_i xs
    have hk3 : PR X.K T B σ sd Q g H (.l true (cutL xs l u)) := hk3
    obtain ⟨p, vs, rfl, q, r⟩ := R3.lstD
    exact .inr ⟨p, vs, rfl, S3.sqL q, fun np nq => PR.newL (PR.weak hk3 st13) S3 nq r.cut⟩
  · rename_i fr xs
    have hk3 : PR X.K T B σ sd Q g H (.l true (cutL xs l u)) := hk3
    obtain ⟨p, rfl, ⟨_, _, vs, e2, r⟩, _⟩ := R3
    exact .inr ⟨p, vs, rfl, .inl (.inl e2), fun np nq => PR.newL (PR.weak hk3 st13) S3 nq r.cut⟩
  · exact False.elim hk3

/-! ### what is walked -/
/-- a later state in which the walk goes on; b: a list is walked that a name owns, so nothing but a step may have come between -/
def Later (T : Tab) (b : Bool) (g : Gh) (H : Hp) (g2 : Gh) (H2 : Hp) : Prop := Good T g2 H2 ∧ Same g.Z g2.Z ∧ (∀ a, g.dc a → g2.dc a) ∧ (b = true → Step g H g2 H2)
structure ItOk (K : PySem.W.Frag) (T : Tab) (b : Bool) (J : It) (g : Gh) (H : Hp) (xs : List Val) : Prop where
  ex : ∃ (G : Hp → Prop) (Y : Nat → Hp → V → Hp → Prop), Walk J xs.length G Y ∧ (∀ g2 H2, Later T b g H g2 H2 → G H2) ∧
    ∀ i g2 H2 x H3, i < xs.length → Later T b g H g2 H2 → Y i H2 x H3 → ∃ z g3, xs[i]? = some z ∧ Step g2 H2 g3 H3 ∧ Good T g3 H3 ∧ Rep K T g3 x z
theorem Later.step {b : Bool} {g g2 g3 : Gh} {H H2 H3 : Hp} (l : Later T b g H g2 H2) (s : Step g2 H2 g3 H3) (G : Good T g3 H3) : Later T b g H g3 H3 :=
  ⟨G, l.2.1.trans s.z, fun a d => s.dc a (l.2.2.1 a d), fun e => (l.2.2.2 e).trans s⟩
def PI' (K : PySem.W.Frag) (T : Tab) (B : Bs) (σ : L2.St) (sd : Sl) (R : It → Hp → Prop) (g : Gh) (H : Hp) (bx : Bool × List Val) : Prop := ∀ J g' H', Step g H g' H' → SR K T B g' H' σ sd → ItOk K T bx.1 J g' H' bx.2 → R J H'
def tI (K : PySem.W.Frag) (T : Tab) (B : Bs) (W : WX) (m : Sl → M (Bool × List Val)) : TI := fun σ H R => ∃ g sd, SR K T B g H σ sd ∧ (m sd).wp (PI' K T B σ sd R g H) (PX K T B W σ sd g H)
def EI (T : Tab) (X : Cx) (W : WX) (B : Bs) (tg it : Expr) (m : Sl → M (Bool × List Val)) : Prop := PI X tg it (tI X.K T B W m)
theorem tI.step {K : PySem.W.Frag} {B : Bs} {α : Type} {σ : L2.St} {sd : Sl} {g : Gh} {H : Hp} {m : Sl → M (Bool × List Val)} {k : Bool × List Val → M α} {P : α → Prop} {R : It → Hp → Prop} (S : SR K T B g H σ sd) (h : ((m sd).bind k).wp P (PX K T B W σ sd g H))
    (hQ : ∀ J g1 H1 bx, Step g H g1 H1 → SR K T B g1 H1 σ sd → ItOk K T bx.1 J g1 H1 bx.2 → (k bx).wp P (PX K T B W σ sd g H) → R J H1) : tI K T B W m σ H R :=
  ⟨g, sd, S, M.wp_mono _ ((M.wp_bind _ _ _ _).mp h) (fun x hx J g1 H1 st S1 I => hQ J g1 H1 x st S1 I hx) fun _ _ hx => hx⟩
/-- a list or a tuple -/
theorem pi_both {tg e : Expr} {te : TE} (he : PE X e te) : PI X tg e (fun σ H R => te σ H fun x H1 => (∃ a xs, x = .ref a ∧ SqL X.K H1 a xs ∧ R (Itl X.K a) H1) ∨ ∃ a xs, x = .ref a ∧ SqT X.K H1 a xs ∧ R (Itt X.K a) H1) := by
  refine ⟨fun pins s σ H R I h => thn (he.run pins s σ H _ I h) fun v s1 hv => ?_⟩
  obtain ⟨x, H1, I1, r1, hq⟩ := hv
  have mk : ∀ (o : Obj) b, b ∈ [s1.heap.objs.size] → FpOk X pins H1 b := fun o b hb => by
    have eb : b = s1.heap.objs.size := by simpa using hb
    rw [eb]
    exact I1.fpOk (Nat.le_refl _) (I1.hok.fresh (Nat.le_refl _))
  rcases hq with ⟨a, xs, e1, q, hr⟩ | ⟨a, xs, e1, q, hr⟩
  · subst e1
    cases r1
    obtain ⟨its, _, pl, _⟩ := I1.list q
    exact wpAny_pyIter_list pl.isList ⟨_, [s1.heap.objs.size], _, _, H1, rfl, I1.kept (t' := s1.toks) (fun b o e => Heap.get?_push_of_some _ e), turn_list a _, ⟨_, Heap.get?_push_size _ rfl, rfl, rfl⟩, mk default, hr⟩
  · subst e1
    cases r1
    obtain ⟨its, _, pl, _⟩ := I1.tuple q
    exact wpAny_pyIter_tuple pl ⟨_, [s1.heap.objs.size], _, _, H1, rfl, I1.kept (t' := s1.toks) (fun b o e => Heap.get?_push_of_some _ e), turn_tuple a _, ⟨_, Heap.get?_push_size _ rfl, rfl, rfl⟩, mk default, hr⟩
section
variable {K : PySem.W.Frag} {B : Bs} {σ : L2.St} {sd : Sl} {H0 H : Hp} {g : Gh} {v : V} {x : Res}
theorem ItOk.listZ {a : Addr} {vs : List V} {xs : List Val} {b : Bool} (q : SqL K g.Z a vs) (r : Reps K T g vs xs) : ItOk K T b (Itl K a) g H xs := by
  refine ⟨_, _, by rw [← r.len]; exact walk_list (xs := vs), fun g2 H2 l => l.1.zs.seq (l.2.1.seq q), fun i g2 H2 y H3 hi l hy => ?_⟩
  obtain ⟨e, hx⟩ := hy
  subst e
  obtain ⟨z, hz⟩ : ∃ z, xs[i]? = some z := ⟨xs[i], by simp [hi]⟩
  obtain ⟨u, e1, e2⟩ := r.get hz
  rw [hx] at e1
  cases e1
  exact ⟨z, g2, hz, .refl, l.1, e2.mono l.2.1 l.2.2.1⟩
theorem ItOk.tupZ {a : Addr} {vs : List V} {xs : List Val} {b : Bool} (q : SqT K g.Z a vs) (r : Reps K T g vs xs) : ItOk K T b (Itt K a) g H xs := by
  refine ⟨_, _, by rw [← r.len]; exact walk_tup (xs := vs), fun g2 H2 l => Same.seqT l.1.zs (Same.seqT l.2.1 q), fun i g2 H2 y H3 hi l hy => ?_⟩
  obtain ⟨e, hx⟩ := hy
  subst e
  obtain ⟨z, hz⟩ : ∃ z, xs[i]? = some z := ⟨xs[i], by simp [hi]⟩
  obtain ⟨u, e1, e2⟩ := r.get hz
  rw [hx] at e1
  cases e1
  exact ⟨z, g2, hz, .refl, l.1, e2.mono l.2.1 l.2.2.1⟩
theorem ItOk.own {a : Addr} {ds : List PyData} (o : OwnL K g H a ds) : ItOk K T true (Itl K a) g H (ds.map .p) := by
  obtain ⟨_, _, vs, e, r⟩ := id o
  refine ⟨_, _, by rw [List.length_map, ← r.len]; exact walk_list (xs := vs), fun g2 H2 l => ?_, fun i g2 H2 y H3 hi l hy => ?_⟩
  · exact .inl (.inl ((l.2.2.2 rfl).hp a _ e o.2.1 fun ps z => by cases z))
  · obtain ⟨e, hx⟩ := hy
    subst e
    obtain ⟨d, e1, e2⟩ := r.getV hx
    exact ⟨.p d, g2, by rw [List.getElem?_map, e1]; rfl, .refl, l.1, .p (e2.mono l.2.1)⟩
theorem ItOk.range {b : Bool} {lo : Int} {n : Nat} : ItOk K T b (Itr lo n) g H (rangeL lo n) := by
  have hl : (rangeL lo n).length = n := by simp [rangeL]
  refine ⟨_, _, by rw [hl]; exact walk_range, fun _ _ _ => trivial, fun i g2 H2 y H3 hi l hy => ?_⟩
  obtain ⟨e, hx⟩ := hy
  subst e
  subst hx
  rw [hl] at hi
  exact ⟨.p (.int (lo + i)), g2, by simp [rangeL, hi], .refl, l.1, .p (.int _)⟩
end
/-- a new list that is walked stays as it is -/
theorem ei_seq {tg e : Expr} {m : Sl → M Res} (h1 : EE T X W B e m) : EI T X W B tg e fun s => (m s).bind fun r => (M.ofOpt r.items).bind fun xs => .ret (r.mine, xs) := by
  refine ⟨fun pins s σ H R I h => ?_⟩
  obtain ⟨g, sd, S, hw⟩ := h
  refine (pi_both h1).run pins s σ H R I ?_
  refine tE.step S hw fun v g1 H1 x st S1 Rx hk => ?_
  obtain ⟨xs, e, hk⟩ := wp_ofOpt hk
  have hk : PI' X.K T B σ sd R g H (x.mine, xs) := hk
  cases x with
  | v y =>
    obtain ⟨a, vs, e1, q, r⟩ : ∃ a vs, v = .ref a ∧ (SqL X.K g1.Z a vs ∨ SqT X.K g1.Z a vs) ∧ Reps X.K T g1 vs xs := by
      unfold Res.items at e
      split at e
      · rename_i z
        cases z
        cases e
        obtain ⟨a, us, e1, q, r⟩ := Rx.lstD
        exact ⟨a, us, e1, .inl q, r.reps⟩
      · rename_i z
        cases z
        cases e
        obtain ⟨a, us, e1, q, r⟩ := Rx.tupD
        exact ⟨a, us, e1, .inr q, r.reps⟩
      · rename_i z
        cases z
        cases e
        obtain ⟨a, us, e1, q, r⟩ := Rx.mtD
        exact ⟨a, us, e1, .inr q, r⟩
      · rename_i z
        cases z
      · cases e
    rcases q with q | q
    · exact .inl ⟨a, vs, e1, S1.sqL q, hk _ g1 H1 st S1 (.listZ q r)⟩
    · exact .inr ⟨a, vs, e1, S1.sqT q, hk _ g1 H1 st S1 (.tupZ q r)⟩
  | l fr ys =>
    have e : some (ys.map Val.p) = some xs := e
    cases e
    cases fr with
    | false =>
      obtain ⟨a, e1, o, _⟩ := Rx
      obtain ⟨_, _, vs, e2, r⟩ := id o
      exact .inl ⟨a, vs, e1, .inl (.inl e2), hk _ g1 H1 st S1 (.own o)⟩
    | true =>
      obtain ⟨g2, st2, S2, rx⟩ := Rx.hand S1 st (x := .p (.list ys)) rfl
      cases rx with
      | p rx =>
        cases rx with
        | lst q r =>
          rename_i a vs
          exact .inl ⟨a, vs, rfl, S2.sqL q, hk _ g2 H1 st2 S2 (.listZ q r.reps)⟩
theorem ei_rng1 {tg a : Expr} {m : Sl → M Res} {p : Pos} (hg : Gl X "range") (hm : X.mg "range" = none) (h1 : EE T X W B a m) (hn : noStar a = true) :
    EI T X W B tg (.Call (.Name "range" p) [a] [] pos) fun s => (m s).bind fun r => (M.ofOpt r.int).bind fun j => .guard (decide (-(2 ^ 62) ≤ j) && decide (j < 2 ^ 62)) (.ret (false, rangeL 0 j.toNat)) := by
  refine ⟨fun pins s σ H R I h => ?_⟩
  obtain ⟨g, sd, S, hw⟩ := h
  refine (pi_range1 hg hm (pa_cons h1 pa_nil (star_ok hn)) (star_ok hn)).run pins s σ H R I ?_
  refine tE.step S hw fun v g1 H1 x st S1 Rx hk => ?_
  obtain ⟨j, e, hk⟩ := wp_ofOpt hk
  obtain ⟨hb, hk⟩ := wp_guard hk
  simp only [Bool.and_eq_true, decide_eq_true_eq] at hb
  exact ⟨j, by rw [Rx.int e], hb.1, hb.2, (show PI' X.K T B σ sd R g H (false, rangeL 0 j.toNat) from hk) _ g1 H1 st S1 .range⟩
theorem ei_rng2 {tg a b : Expr} {m m' : Sl → M Res} {p : Pos} (hg : Gl X "range") (hm : X.mg "range" = none) (h1 : EE T X W B a m) (h2 : EE T X W B b m') (hn : noStar a = true) (hn' : noStar b = true) :
    EI T X W B tg (.Call (.Name "range" p) [a, b] [] pos) fun s => (m s).bind fun r => (m' s).bind fun r' => (M.ofOpt r.int).bind fun i => (M.ofOpt r'.int).bind fun j =>
      .guard (decide (-(2 ^ 62) ≤ i) && decide (i < 2 ^ 62) && decide (-(2 ^ 62) ≤ j) && decide (j < 2 ^ 62)) (.ret (false, rangeL i (j - i).toNat)) := by
  refine ⟨fun pins s σ H R I h => ?_⟩
  obtain ⟨g, sd, S, hw⟩ := h
  refine (pi_range2 hg hm (pa_cons h1 (pa_cons h2 pa_nil (star_ok hn')) (star_ok hn)) (by rw [star_ok hn, star_ok hn']; rfl) (star_ok hn')).run pins s σ H R I ?_
  refine tE.step S hw fun v g1 H1 x st S1 Rx hk => ?_
  refine tE.step S1 (wkX hk st) fun u g2 H2 y st2 S2 Ry hk2 => ?_
  obtain ⟨i, e, hk2⟩ := wp_ofOpt hk2
  obtain ⟨j, e', hk2⟩ := wp_ofOpt hk2
  obtain ⟨hb, hk2⟩ := wp_guard hk2
  simp only [Bool.and_eq_true, decide_eq_true_eq] at hb
  exact ⟨i, j, by rw [Rx.int e, Ry.int e'], ⟨hb.1.1.1, hb.1.1.2, hb.1.2, hb.2⟩, (show PI' X.K T B σ sd R g H (false, rangeL i (j - i).toNat) from hk2) _ g2 H2 (st.trans st2) S2 .range⟩
theorem ItOk.down {K : PySem.W.Frag} {T : Tab} {g : Gh} {H : Hp} {b : Bool} {hi : Int} {n : Nat} : ItOk K T b (Itc hi (-1) n) g H (downL hi n) := by
  have hl : (downL hi n).length = n := by simp [downL]
  refine ⟨_, _, by rw [hl]; exact walk_rangeC, fun _ _ _ => trivial, fun i g2 H2 y H3 hi' l hy => ?_⟩
  obtain ⟨e, hx⟩ := hy
  subst e
  subst hx
  rw [hl] at hi'
  exact ⟨.p (.int (hi + (i : Nat) * (-1))), g2, by simp [downL, hi'], .refl, l.1, .p (.int _)⟩
theorem ei_rng3 {tg a b c : Expr} {m m' m'' : Sl → M Res} {p : Pos} (hg : Gl X "range") (hm : X.mg "range" = none) (h1 : EE T X W B a m) (h2 : EE T X W B b m') (h3 : EE T X W B c m'') (hn : noStar a = true) (hn' : noStar b = true) (hn'' : noStar c = true) :
    EI T X W B tg (.Call (.Name "range" p) [a, b, c] [] pos) fun s => (m s).bind fun r => (m' s).bind fun r' => (m'' s).bind fun r'' => (M.ofOpt r.int).bind fun i => (M.ofOpt r'.int).bind fun j => (M.ofOpt r''.int).bind fun k =>
      .guard (decide (-(2 ^ 62) ≤ i) && decide (i < 2 ^ 62) && decide (-(2 ^ 62) ≤ j) && decide (j < 2 ^ 62) && decide (k = -1)) (.ret (false, downL i (i - j).toNat)) := by
  refine ⟨fun pins s σ H R I h => ?_⟩
  obtain ⟨g, sd, S, hw⟩ := h
  refine (pi_range3 hg hm (pa_cons h1 (pa_cons h2 (pa_cons h3 pa_nil (star_ok hn'')) (star_ok hn')) (star_ok hn)) (star_ok hn) (by rw [star_ok hn', star_ok hn'']; rfl)).run pins s σ H R I ?_
  refine tE.step S hw fun v g1 H1 x st S1 Rx hk => ?_
  refine tE.step S1 (wkX hk st) fun u g2 H2 y st2 S2 Ry hk2 => ?_
  refine tE.step S2 (wkX hk2 st2) fun w g3 H3 z st3 S3 Rz hk3 => ?_
  obtain ⟨i, e, hk3⟩ := wp_ofOpt hk3
  obtain ⟨j, e', hk3⟩ := wp_ofOpt hk3
  obtain ⟨k, e'', hk3⟩ := wp_ofOpt hk3
  obtain ⟨hb, hk3⟩ := wp_guard hk3
  simp only [Bool.and_eq_true, decide_eq_true_eq] at hb
  obtain ⟨⟨⟨⟨b1, b2⟩, b3⟩, b4⟩, b5⟩ := hb
  exact ⟨i, j, -1, (i - j).toNat, by rw [Rx.int e, Ry.int e', Rz.int e'', b5], RgC.neg b1 b2 b3 b4, (show PI' X.K T B σ sd R g H (false, downL i (i - j).toNat) from hk3) _ g3 H3 ((st.trans st2).trans st3) S3 .down⟩
end
end Rf

set_option Elab.async false
set_option linter.all false
set_option maxRecDepth 100000
set_option maxHeartbeats 1000000
/-! R5b: backwards; starred items. -/
namespace Rf
open PySem PySem.Spec PyProof.Rows L2
section
variable {prog : Program} {w : World} {A : Around} {E : Value → Shared → Prop} {s : Shared}
theorem applied_rev {sl : Addr} {vl vu vs : Value} {n : Nat} {Q : Int × Int × Nat → Shared → Prop} (hs : s.heap.IsSliceOf sl vl vu vs) (pl : IsPart vl none) (pu : IsPart vu none) (ps : IsPart vs (some (-1)))
    (h : Q ((n : Int) - 1, -1, n) s) : wpAny (model prog w) A (Builtin.Slice.sliceApplied (.ref sl) (pure (n : Int))) Q E s := by
  obtain ⟨os, hos, hcs, hds⟩ := id hs
  unfold Builtin.Slice.sliceApplied Builtin.Slice.sliceFields
  refine wpAny_bind (wpAny_bind (wpAny_field hos hds (x := vl) rfl (wpAny_bind (wpAny_field hos hds (x := vu) rfl (wpAny_bind (wpAny_field hos hds (x := vs) rfl (wpAny_pure ?_)))))))
  refine wpAny_bind (HT.slicePart_ ps ?_)
  show wpAny _ _ (if ((-1 : Int) == 0) = true then _ else _) _ _ s
  rw [if_neg (by decide)]
  refine wpAny_bind (HT.slicePart_ pl (wpAny_bind (HT.slicePart_ pu (wpAny_bind (wpAny_pure ?_)))))
  show wpAny _ _ (pure ((n : Int) - 1, (-1 : Int), Builtin.Slice.slicePlaces ((n : Int) - 1) (-1) (-1))) _ _ s
  have e : Builtin.Slice.slicePlaces ((n : Int) - 1) (-1) (-1) = n := by
    unfold Builtin.Slice.slicePlaces
    have h1 : ¬ ((-1 : Int) > 0) := by omega
    simp only [h1, if_false]
    have e2 : -(-1 : Int) = 1 := by omega
    rw [e2, Int.ediv_one]
    split <;> omega
  rw [e]
  exact wpAny_pure h
theorem fmc {α β : Type} {f g : α → Option β} : ∀ {l : List α}, (∀ a ∈ l, f a = g a) → l.filterMap f = l.filterMap g
  | [], _ => rfl
  | a :: l, h => by
    rw [List.filterMap_cons, List.filterMap_cons, h a List.mem_cons_self, fmc fun b hb => h b (List.mem_cons_of_mem _ hb)]
theorem pick_rev (xs : Array Value) : ((List.range xs.size).filterMap fun (m : Nat) => xs[(((xs.size : Int) - 1) + (m : Int) * (-1)).toNat]?).toArray = xs.toList.reverse.toArray := by
  refine congrArg List.toArray ?_
  have e : (List.range xs.size).filterMap (fun (m : Nat) => xs[(((xs.size : Int) - 1) + (m : Int) * (-1)).toNat]?) = (List.range xs.size).filterMap fun m => xs.toList.reverse[m]? := by
    refine fmc fun m hm => ?_
    have hm := List.mem_range.mp hm
    have q : (((xs.size : Int) - 1) + (m : Int) * (-1)).toNat = xs.size - 1 - m := by omega
    rw [q, List.getElem?_reverse (by simpa using hm), Array.getElem?_toList, Array.length_toList]
  rw [e]
  have z : ∀ l : List Value, (List.range l.length).filterMap (fun m => l[m]?) = l := fun l => by
    induction l with
    | nil => rfl
    | cons a r ih =>
      rw [List.length_cons, List.range_succ_eq_map, List.filterMap_cons]
      simp only [List.getElem?_cons_zero, List.filterMap_map]
      congr 1
  have zz := z xs.toList.reverse
  rw [List.length_reverse, Array.length_toList] at zz
  exact zz
theorem getItem_tuple_rev {t sl : Addr} {items : Array Value} {vl vu vs : Value} {Q : Value → Shared → Prop} (ht : IsTup s.heap t items) (hs : s.heap.IsSliceOf sl vl vu vs) (pl : IsPart vl none) (pu : IsPart vu none) (ps : IsPart vs (some (-1)))
    (h : Q (.ref s.heap.objs.size) { s with heap := s.heap.push { cls := .type "tuple", data := .seq items.toList.reverse.toArray } })
    (hsz : items.size ≤ sizeLine) : wpAny (model prog w) A (getItem (.ref t) (.ref sl)) Q E s := by
  have htake : sizeOk (.seq items.toList.reverse.toArray) := by
    show items.toList.reverse.toArray.size ≤ sizeLine
    rw [List.size_toArray, List.length_reverse, Array.length_toList]
    exact hsz
  obtain ⟨os, hos, hcs, hds⟩ := id hs
  have hTs : s.TypeIs (.ref sl) "slice" := ⟨os, hos, hcs⟩
  unfold getItem
  try with_reducible refine wpAny_holding ?_
  first | refine wpAny_bind (wpAny_pure ?_) | skip
  refine wpAny_bind (wpAny_sequenceKey ht.typeIs (by decide) ?_)
  refine wpAny_bind (wpAny_callSpecial?_slot (name := Str.ofString "__getitem__") ht.typeIs PyProof.Rows.slot_tuple_getitem
    (wpAny_call_entry PyProof.Rows.slot_tuple_getitem ht.typeIs entry_tuple_getitem ?_ (args_tuple_getitem _ _)))
  show wpAny _ _ (Builtin.Tuple.tupleItemsOf (.ref t) >>= _) _ _ s
  refine wpAny_bind (tupleItemsOf_ ht ?_)
  refine wpAny_bind (wpAny_typeOf hTs ?_)
  rw [if_pos (by decide)]
  refine wpAny_bind (applied_rev hs pl pu ps ?_)
  have hno : ¬ (((((items.size : Int) - 1) : Int) == 0 && (-1 : Int) == 1 && items.size == items.size) = true) := by
    intro q
    rw [Bool.and_eq_true, Bool.and_eq_true] at q
    exact absurd q.1.2 (by decide)
  show wpAny _ _ (if ((((items.size : Int) - 1) : Int) == 0 && (-1 : Int) == 1 && items.size == items.size) = true then _ else _) _ _ s
  rw [if_neg hno, pick_rev]
  first
    | exact wpAny_bind (m := Builtin.Tuple.tupleExact _) (wpAny_newObj_type (wpAny_pure ⟨_, rfl, wpAny_pure h⟩) htake)
    | exact wpAny_bind (m := Builtin.Tuple.tupleExact _) (wpAny_newObj_type (wpAny_bind (wpAny_pure (wpAny_pure ⟨_, rfl, wpAny_pure h⟩))) htake)
    | exact wpAny_bind (wpAny_bind (m := Builtin.Tuple.tupleExact _) (wpAny_newObj_type (wpAny_pure (wpAny_pure ⟨_, rfl, wpAny_pure h⟩)) htake))
    | exact wpAny_bind (wpAny_bind (m := Builtin.Tuple.tupleExact _) (wpAny_newObj_type (wpAny_pure ⟨_, rfl, wpAny_pure h⟩) htake))
end
section
variable {T : Tab} {X : Cx} {W : WX} {B : Bs} {pos : Pos}
/-- xs[::-1], a list or a tuple -/
def tRevA (K : PySem.W.Frag) (te : TE) : TE := fun σ H Q => te σ H fun x H1 => (∃ a xs, x = .ref a ∧ SqL K H1 a xs ∧ ∀ p, H1 p = none → Q (.ref p) (upd H1 p (.lst xs.reverse))) ∨ ∃ a xs, x = .ref a ∧ SqT K H1 a xs ∧ ∀ p, H1 p = none → Q (.ref p) (upd H1 p (.tup xs.reverse))
theorem pe_revA {e : Expr} {te : TE} {k : Nat} {p1 p2 p3 pos : Pos} (he : PE X e te) : PE X (.Subscript e (.Slice none none (some (.UnaryOp .USub (.Constant (.int 1) k p1) p2)) p3) pos) (tRevA X.K te) := by
  refine ⟨fun pins s σ H Q I h => ?_⟩
  refine Subscript_ (thn (he.run pins s σ H _ I h) fun v s1 ⟨x, H1, I1, r1, q1⟩ => ?_)
  obtain ⟨a, ex, tt⟩ : ∃ a, x = .ref a ∧ ((∃ xs, SqL X.K H1 a xs ∧ ∀ p, H1 p = none → Q (.ref p) (upd H1 p (.lst xs.reverse))) ∨ ∃ xs, SqT X.K H1 a xs ∧ ∀ p, H1 p = none → Q (.ref p) (upd H1 p (.tup xs.reverse))) := by
    rcases q1 with ⟨a, xs, e, hx, q⟩ | ⟨a, xs, e, hx, q⟩
    · exact ⟨a, e, .inl ⟨xs, hx, q⟩⟩
    · exact ⟨a, e, .inr ⟨xs, hx, q⟩⟩
  subst ex
  cases r1
  have hst : PO X (some (.UnaryOp .USub (.Constant (.int 1) k p1) p2)) (tPart (tUn (rU fun i => .int (-i)) (tC (.int 1)))) := po_some (pe_un un_neg pe_int)
  refine wpAny_Slice (thn (po_none.run pins s1 σ H1 (fun o H2 => o = none ∧ H2 = H1) I1 ⟨rfl, rfl⟩) fun vl s2 ⟨l, H2, I2, pl, el, e2⟩ => ?_)
  subst el e2
  refine thn (po_none.run pins s2 σ H2 (fun o H3 => o = none ∧ H3 = H2) I2 ⟨rfl, rfl⟩) fun vu s3 ⟨u, H3, I3, pu, eu, e3⟩ => ?_
  subst eu e3
  refine thn (hst.run pins s3 σ H3 (fun o H4 => o = some (-1) ∧ H4 = H3) I3 ⟨1, rfl, -1, rfl, rfl, rfl⟩) fun vs s4 ⟨o, H4, I4, ps, eo, e4⟩ => ?_
  subst eo e4
  have I5 : L2.Inv X pins σ H4 { s4 with heap := s4.heap.push { cls := .type "slice", data := .fields #[vl, vu, vs] } } := I4.kept (t' := s4.toks) fun b ob q => Heap.get?_push_of_some _ q
  show wpAny (model X.prog X.w) X.A (subscriptTail e (.Slice none none (some (.UnaryOp .USub (.Constant (.int 1) k p1) p2)) p3) (.ref a) (.ref s4.heap.objs.size)) (EP X pins σ Q) X.xe { s4 with heap := s4.heap.push { cls := .type "slice", data := .fields #[vl, vu, vs] } }
  rcases tt with ⟨xs, hx, q⟩ | ⟨xs, hx, q⟩
  · obtain ⟨its, r, ht, hz⟩ := I5.list hx
    have hlen := r.length
    refine tail_any (ops := [.ref a, .ref s4.heap.objs.size]) ht.isList.typeIs (PySem.slot_list_getitem.lookup) ?_ (by with_unfolding_all rfl)
    refine wpAny_getItem_list_slice ht.isList (Heap.IsSliceOf.new _ vl vu vs) pl pu ps (by decide) ?_ (by rw [List.size_toArray]; omega)
    rw [PySem.W.krv_pick]
    refine ⟨.ref _, _, I5.laid (t' := s4.toks) (o := .lst xs.reverse) (fun b ob q => Heap.get?_push_of_some _ q) (Nat.le_refl _) ?_, rfl, q _ (I5.hok.fresh (Nat.le_refl _))⟩
    exact ⟨by rw [List.length_reverse]; exact hz, _, 0, r.reverse, Heap.get?_push_size _ rfl⟩
  · obtain ⟨its, r, ht, hz⟩ := I5.tuple hx
    have hlen := r.length
    refine tail_any (ops := [.ref a, .ref s4.heap.objs.size]) ht.typeIs (PyProof.Rows.slot_tuple_getitem.lookup) ?_ (by with_unfolding_all rfl)
    refine getItem_tuple_rev ht (Heap.IsSliceOf.new _ vl vu vs) pl pu ps ?_ (by rw [List.size_toArray]; omega)
    refine ⟨.ref _, _, I5.laid (t' := s4.toks) (o := .tup xs.reverse) (fun b ob q => Heap.get?_push_of_some _ q) (Nat.le_refl _) ?_, rfl, q _ (I5.hok.fresh (Nat.le_refl _))⟩
    exact ⟨by rw [List.length_reverse]; exact hz, _, r.reverse, IsTup.new _ _⟩
theorem RDs.rev {K : PySem.W.Frag} {Z : Hp} : ∀ {vs : List V} {ds : List PyData}, RDs K Z vs ds → RDs K Z vs.reverse ds.reverse
  | _, _, .nil => .nil
  | _, _, .cons h r => by
    rw [List.reverse_cons, List.reverse_cons]
    exact (RDs.rev r).append (.cons h .nil)
def revR : Res → M Res
  | .v (.p (.tuple xs)) => .ret (.v (.p (.tuple xs.reverse)))
  | a => (M.ofOpt a.list).bind fun xs => .ret (.l true xs.reverse)
theorem revR_eq (a : Res) : Rf.blt .rev [a] = revR a := by
  cases a with
  | l f xs => rfl
  | v x =>
    cases x with
    | p d => cases d <;> rfl
    | _ => rfl
theorem ee_rev {e : Expr} {k : Nat} {p1 p2 p3 : Pos} {m : Sl → M Res} (h1 : EE T X W B e m) : EE T X W B (.Subscript e (.Slice none none (some (.UnaryOp .USub (.Constant (.int 1) k p1) p2)) p3) pos) fun s => (m s).bind revR := by
  refine ⟨fun pins s σ H Q I h => ?_⟩
  obtain ⟨g, sd, S, hw⟩ := h
  refine (pe_revA h1).run pins s σ H Q I ?_
  refine tE.step S hw fun v g1 H1 x st S1 R hk => ?_
  unfold revR at hk
  split at hk
  · rename_i xs
    have hk : PR X.K T B σ sd Q g H (.v (.p (.tuple xs.reverse))) := hk
    obtain ⟨p, vs, rfl, q, r⟩ := R.tupD
    exact .inr ⟨p, vs, rfl, S1.sqT q, fun np nq => PR.newT (PR.weak hk st) S1 nq (RDs.rev r)⟩
  · obtain ⟨xs, ex, hk⟩ := wp_ofOpt hk
    have hk : PR X.K T B σ sd Q g H (.l true xs.reverse) := hk
    obtain ⟨p, vs, rfl, q, r⟩ := R.seqL S1 ex
    exact .inl ⟨p, vs, rfl, q, fun np nq => PR.newL (PR.weak hk st) S1 nq (RDs.rev r)⟩
theorem Reps.app {K : PySem.W.Frag} {g : Gh} : ∀ {vs us : List V} {xs ys : List Val}, Reps K T g vs xs → Reps K T g us ys → Reps K T g (vs ++ us) (xs ++ ys)
  | _, _, _, _, .nil, s => s
  | _, _, _, _, .cons h r, s => .cons h (Reps.app r s)
theorem Reps.step {K : PySem.W.Frag} {g g' : Gh} {H H' : Hp} {vs : List V} {xs : List Val} (h : Reps K T g vs xs) (s : Step g H g' H') : Reps K T g' vs xs := h.mono s.z s.dc
/-- *e in a display or a call -/
theorem ea_star {e : Expr} {es : List Expr} {p : Pos} {me : Sl → M Res} {ml : Sl → M (List Val)} (h1 : EE T X W B e me) (h2 : EA T X W B es ml) :
    EA T X W B (.Starred e p :: es) fun s => (me s).bind fun r => (M.ofOpt r.items).bind fun ys => (ml s).bind fun xs => .ret (ys ++ xs) := by
  refine ⟨fun ps pins s σ H Q I h => ?_⟩
  obtain ⟨g, sd, S, hw⟩ := h
  refine (StX.pa_star h1 h2).run ps pins s σ H Q I ?_
  refine tE.step S hw fun v g1 H1 r st S1 R hk => ?_
  obtain ⟨ys, e, hk⟩ := wp_ofOpt hk
  obtain ⟨a, vs, rfl, q, rr⟩ := R.its S1 e
  refine ⟨a, vs, rfl, q.symm, tL.step S1 (wkX hk st) fun us g3 H3 xs st3 S3 R3 hf => ?_⟩
  have hf : PL X.K T B σ sd Q g H (ys ++ xs) := hf
  exact hf _ g3 H3 (st.trans st3) S3 ((rr.step st3).app R3)
theorem er_bad {es : List Expr} : ER T X W B es fun _ => .stuck := by
  refine ⟨fun ps pins s σ H Q I h => ?_⟩
  obtain ⟨g, sd, S, hw⟩ := h
  exact False.elim hw
end
end Rf

set_option Elab.async false
set_option linter.all false
set_option maxRecDepth 100000
set_option maxHeartbeats 1000000
/-! R6: targets, pairs that are walked, comprehensions. -/
namespace Rf
open PySem PySem.Spec PyProof.Rows L2

/-! ### many slots at once -/
def setV : List Nat → List V → L2.St → L2.St
  | i :: is, v :: vs, σ => setV is vs (σ.set i (some v))
  | _, _, σ => σ
theorem setV_len : ∀ (is : List Nat) (vs : List V) (σ : L2.St), (setV is vs σ).length = σ.length
  | [], _, _ => rfl
  | _ :: _, [], _ => rfl
  | i :: is, v :: vs, σ => by
    show (setV is vs (σ.set i (some v))).length = σ.length
    rw [setV_len is vs, List.length_set]
theorem setV_none : ∀ (is : List Nat) (vs : List V) (σ : L2.St) (j : Nat), vs.length = is.length → j ∈ is → setV is vs (σ.set j none) = setV is vs σ
  | [], _, _, _, _, h => by cases h
  | i :: is, [], _, _, h, _ => by cases h
  | i :: is, v :: vs, σ, j, hl, hj => by
    show setV is vs ((σ.set j none).set i (some v)) = setV is vs (σ.set i (some v))
    by_cases e : j = i
    · subst e
      rw [List.set_set]
    · rw [List.set_comm _ _ e]
      rcases List.mem_cons.mp hj with z | z
      · exact absurd z e
      · exact setV_none is vs _ j (Nat.succ.inj hl) z
theorem setV_wipe : ∀ (ws is : List Nat) (vs : List V) (σ : L2.St), vs.length = is.length → (∀ j ∈ ws, j ∈ is) → setV is vs (wipe σ ws) = setV is vs σ
  | [], _, _, _, _, _ => rfl
  | w :: ws, is, vs, σ, hl, h => by
    show setV is vs ((wipe σ ws).set w none) = setV is vs σ
    rw [setV_none is vs _ w hl (h w List.mem_cons_self)]
    exact setV_wipe ws is vs σ hl fun j hj => h j (List.mem_cons_of_mem _ hj)
theorem wipe_comm {σ : L2.St} {i : Nat} {x : Option V} : ∀ (ws : List Nat), i ∉ ws → wipe (σ.set i x) ws = (wipe σ ws).set i x
  | [], _ => rfl
  | w :: ws, h => by
    show (wipe (σ.set i x) ws).set w none = ((wipe σ ws).set w none).set i x
    rw [wipe_comm ws fun z => h (List.mem_cons_of_mem _ z), List.set_comm _ _ (show i ≠ w from fun z => h (z ▸ List.mem_cons_self))]
theorem wipe_set {σ : L2.St} {i : Nat} {x : Option V} : ∀ (ws : List Nat), i ∈ ws → wipe (σ.set i x) ws = wipe σ ws
  | [], h => by cases h
  | w :: ws, h => by
    show (wipe (σ.set i x) ws).set w none = (wipe σ ws).set w none
    by_cases z : i ∈ ws
    · rw [wipe_set ws z]
    · rcases List.mem_cons.mp h with e | e
      · subst e
        rw [wipe_comm ws z, List.set_set]
      · exact absurd e z
theorem wipe_setV : ∀ (is : List Nat) (vs : List V) (σ : L2.St) (ws : List Nat), (∀ j ∈ is, j ∈ ws) → wipe (setV is vs σ) ws = wipe σ ws
  | [], _, _, _, _ => rfl
  | _ :: _, [], _, _, _ => rfl
  | i :: is, v :: vs, σ, ws, h => by
    show wipe (setV is vs (σ.set i (some v))) ws = wipe σ ws
    rw [wipe_setV is vs _ ws fun j hj => h j (List.mem_cons_of_mem _ hj), wipe_set ws (h i List.mem_cons_self)]
theorem wipe_wipe {σ : L2.St} : ∀ (vs : List Nat), wipe (wipe σ vs) vs = wipe σ vs := fun vs => by
  have key : ∀ (ws vs : List Nat), (∀ j ∈ ws, j ∈ vs) → wipe (wipe σ ws) vs = wipe σ vs := by
    intro ws
    induction ws with
    | nil => intro _ _; rfl
    | cons w ws ih =>
      intro vs h
      show wipe ((wipe σ ws).set w none) vs = wipe σ vs
      rw [wipe_set vs (h w List.mem_cons_self)]
      exact ih vs fun j hj => h j (List.mem_cons_of_mem _ hj)
  exact key vs vs fun _ h => h
section
variable {K : PySem.W.Frag} {T : Tab} {B : Bs} {σ : L2.St} {sd : Sl} {H : Hp} {g : Gh}
/-- a name gets a value -/
theorem SR.setv {i : Nat} {v : V} {x : Val} (S : SR K T B g H σ sd) (r : Rep K T g v x) : SR K T B g H (σ.set i (some v)) (sd.set i (some (.v x))) := by
  refine ⟨S.good, fun j s e => ?_, fun j k xs ys a hjk e1 e2 e3 e4 => ?_, by rw [List.length_set, List.length_set]; exact S.len, S.base⟩
  · by_cases hj : i = j
    · subst hj
      have hi : i < sd.length := by
        by_cases z : i < sd.length
        · exact z
        · rw [List.getElem?_eq_none (by rw [List.length_set]; omega)] at e
          cases e
      rw [List.getElem?_set_self hi] at e
      cases e
      exact ⟨v, List.getElem?_set_self (by rw [← S.len]; exact hi), r⟩
    · rw [List.getElem?_set_ne hj] at e
      obtain ⟨u, e1, q⟩ := S.slots j s e
      exact ⟨u, by rw [List.getElem?_set_ne hj]; exact e1, q⟩
  · have ne : ∀ {j : Nat} {zs : List PyData}, (sd.set i (some (.v x)))[j]? = some (some (.own zs)) → i ≠ j := fun {j zs} e z => by
      subst z
      by_cases hi : i < sd.length
      · rw [List.getElem?_set_self hi] at e
        cases e
      · rw [List.getElem?_eq_none (by rw [List.length_set]; omega)] at e
        cases e
    have nj := ne e1
    have nk := ne e2
    rw [List.getElem?_set_ne nj] at e1 e3
    rw [List.getElem?_set_ne nk] at e2 e4
    exact S.apart j k xs ys a hjk e1 e2 e3 e4
theorem SR.setMany : ∀ {is : List Nat} {vs : List V} {xs : List Val} {σ : L2.St} {sd sd' : Sl}, SR K T B g H σ sd → Reps K T g vs xs → setSlots is xs sd = some sd' → SR K T B g H (setV is vs σ) sd' ∧ vs.length = is.length
  | [], _, _, _, _, _, S, .nil, e => by
    cases e
    exact ⟨S, rfl⟩
  | i :: is, _, _, _, _, _, S, .cons h r, e => by
    obtain ⟨q, l⟩ := SR.setMany (S.setv (i := i) h) r e
    exact ⟨q, congrArg (· + 1) l⟩
  | [], _, _, _, _, _, _, .cons _ _, e => by cases e
  | _ :: _, _, _, _, _, _, _, .nil, e => by cases e
end

/-! ### targets -/
def gNames : List Nat → TGs
  | [] => gNil
  | i :: is => gCons (gName i) (gNames is)
def gNest (K : PySem.W.Frag) : List GT → TGs
  | [] => gNil
  | .n i :: r => gCons (gName i) (gNest K r)
  | .ns is :: r => gCons (gTup K is.length (gNames is)) (gNest K r)
def tgR (K : PySem.W.Frag) : G → TG
  | .name i => gName i
  | .names is => fun v σ H Q => gTup K is.length (gNames is) v σ H Q ∨ gUnl K is.length (gNames is) v σ H Q
  | .nest ts => gTup K ts.length (gNest K ts)
/-- the target tg is g -/
def EG (X : Cx) (tg : Expr) (g : G) : Prop := PG X tg (tgR X.K g)
theorem gNames_ok : ∀ {is : List Nat} {vs : List V} {σ : L2.St} {H : Hp} {Q : L2.St → Hp → Prop}, vs.length = is.length → Q (setV is vs σ) H → gNames is vs σ H Q
  | [], vs, σ, H, Q, hl, hq => by
    have e : vs = [] := List.eq_nil_of_length_eq_zero hl
    subst e
    exact ⟨rfl, hq⟩
  | i :: is, [], _, _, _, hl, _ => by cases hl
  | i :: is, v :: vs, σ, H, Q, hl, hq => ⟨v, vs, rfl, gNames_ok (is := is) (Nat.succ.inj hl) hq⟩
theorem setSlots_len {sd' : Sl} : ∀ {xs : List Val} {sd : Sl} {is : List Nat}, setSlots is xs sd = some sd' → xs.length = is.length
  | [], _, [], _ => rfl
  | [], _, _ :: _, e => by cases e
  | _ :: _, _, [], e => by cases e
  | _ :: xs, _, _ :: is, e => congrArg (· + 1) (setSlots_len (xs := xs) (is := is) e)
theorem setV_app : ∀ (is js : List Nat) (us ws : List V) (σ : L2.St), us.length = is.length → setV (is ++ js) (us ++ ws) σ = setV js ws (setV is us σ)
  | [], _, [], _, _, _ => rfl
  | [], _, _ :: _, _, _, h => by cases h
  | _ :: _, _, [], _, _, h => by cases h
  | i :: is, js, u :: us, ws, σ, h => setV_app is js us ws (σ.set i (some u)) (Nat.succ.inj h)
theorem gNest_ok {K : PySem.W.Frag} {Z H : Hp} (e : Same Z H) : ∀ {ts : List GT} {vs : List V} {ds ys : List PyData}, RDs K Z vs ds → flatT ts ds = some ys →
    ∃ ws, RDs K Z ws ys ∧ ws.length = (nestS ts).length ∧ vs.length = ts.length ∧ ∀ (σ : L2.St) (Q : L2.St → Hp → Prop), Q (setV (nestS ts) ws σ) H → gNest K ts vs σ H Q
  | [], _, _, _, .nil, h => by
    cases h
    exact ⟨[], .nil, rfl, rfl, fun σ Q q => ⟨rfl, q⟩⟩
  | .n i :: r, _, _, _, .cons (v := v) (vs := vs) a b, h => by
    obtain ⟨zs, h1, rfl⟩ := Option.map_eq_some_iff.mp (show (flatT r _).map _ = some _ from h)
    obtain ⟨ws, k1, k2, k3, k4⟩ := gNest_ok e b h1
    exact ⟨v :: ws, .cons a k1, congrArg (· + 1) k2, congrArg (· + 1) k3, fun σ Q q => ⟨v, vs, rfl, k4 (σ.set i (some v)) Q q⟩⟩
  | .ns is :: r, _, _, _, .cons (vs := vs) a b, h => by
    cases a with
    | tup q rr =>
      rename_i ad us es
      have h : cond (es.length == is.length) ((flatT r _).map (es ++ ·)) none = some _ := h
      revert h
      cases hl : (es.length == is.length) with
      | false => intro h; cases h
      | true =>
        intro h
        obtain ⟨zs, h1, h2⟩ := Option.map_eq_some_iff.mp (show (flatT r _).map (es ++ ·) = some _ from h)
        subst h2
        obtain ⟨ws, k1, k2, k3, k4⟩ := gNest_ok e b h1
        have hu : us.length = is.length := rr.len.trans (beq_iff_eq.mp hl)
        refine ⟨us ++ ws, rr.append k1, ?_, congrArg (· + 1) k3, fun σ Q z => ⟨_, vs, rfl, _, us, rfl, Same.seqT e q, hu, gNames_ok hu (k4 _ Q ?_)⟩⟩
        · show (us ++ ws).length = (is ++ nestS r).length
          rw [List.length_append, List.length_append, hu, k2]
        · have z : Q (setV (is ++ nestS r) (us ++ ws) σ) H := z
          rw [setV_app _ _ _ _ _ hu] at z
          exact z
    | lst q rr => cases h
    | non => cases h
    | bl _ => cases h
    | int _ => cases h
    | str _ => cases h
    | dct _ => cases h
theorem tgR_ok {K : PySem.W.Frag} {T : Tab} : ∀ {g : G} {gh : Gh} {H : Hp} {v : V} {x : Val} {sd sd' : Sl} {σ : L2.St} {Q : L2.St → Hp → Prop}, Same gh.Z H → Rep K T gh v x → g.put x sd = some sd' →
    (∀ vs xs, Reps K T gh vs xs → vs.length = g.slots.length → setSlots g.slots xs sd = some sd' → Q (setV g.slots vs σ) H) → tgR K g v σ H Q
  | .name i, gh, H, v, x, sd, sd', σ, Q, hz, r, e, hq => hq [v] [x] (.cons r .nil) rfl e
  | .names is, gh, H, v, x, sd, sd', σ, Q, hz, r, e, hq => by
    cases r with
    | p h =>
      cases h with
      | tup q r =>
        rename_i a vs ds
        have e : setSlots is (ds.map .p) sd = some sd' := e
        have rr : Reps K T gh vs (ds.map .p) := r.reps
        have hl : vs.length = is.length := by rw [rr.len]; exact setSlots_len e
        exact .inl ⟨a, vs, rfl, Same.seqT hz q, hl, gNames_ok hl (hq vs _ rr hl e)⟩
      | lst q r =>
        rename_i a vs ds
        have e : setSlots is (ds.map .p) sd = some sd' := e
        have rr : Reps K T gh vs (ds.map .p) := r.reps
        have hl : vs.length = is.length := by rw [rr.len]; exact setSlots_len e
        exact .inr ⟨a, vs, rfl, hz.seq q, hl, gNames_ok hl (hq vs _ rr hl e)⟩
      | non => cases e
      | bl _ => cases e
      | int _ => cases e
      | str _ => cases e
      | dct _ => cases e
    | fn _ => cases e
    | dice _ => cases e
    | mt q r =>
      rename_i a vs xs
      have e : setSlots is xs sd = some sd' := e
      have hl : vs.length = is.length := by rw [r.len]; exact setSlots_len e
      exact .inl ⟨a, vs, rfl, Same.seqT hz q, hl, gNames_ok hl (hq vs _ r hl e)⟩
  | .nest ts, gh, H, v, x, sd, sd', σ, Q, hz, r, e, hq => by
    cases r with
    | p h =>
      cases h with
      | tup q r =>
        rename_i a vs ds
        obtain ⟨ys, e1, e2⟩ := Option.bind_eq_some_iff.mp (show (flatT ts ds).bind (fun ys => setSlots (nestS ts) (ys.map .p) sd) = some sd' from e)
        obtain ⟨ws, k1, k2, k3, k4⟩ := gNest_ok hz r e1
        exact ⟨a, vs, rfl, Same.seqT hz q, k3, k4 σ Q (hq ws _ k1.reps k2 e2)⟩
      | lst q r => cases e
      | non => cases e
      | bl _ => cases e
      | int _ => cases e
      | str _ => cases e
      | dct _ => cases e
    | fn _ => cases e
    | dice _ => cases e
    | mt q r => cases e
section
variable {X : Cx} {pos : Pos}
theorem eg_name {i : Nat} {x : Str} (hN : X.N.Nodup) (hi : X.N[i]? = some x) (hx : Loc X.env.scope x) (hf : X.fn x = true ∨ X.env.scope.names.lookup x = some .local) : EG X (.Name x pos) (.name i) := pg_name hN hi hx hf
theorem each_cons {e : Expr} {es : List Expr} {env : PySem.Env} (h : noStar e = true) : assignEach (e :: es) env = (false, assign e env) :: assignEach es env := by
  cases e <;> first | rfl | cases h
/-- names of a tuple's target, in turn -/
structure EGs (X : Cx) (tgs : List Expr) (is : List Nat) : Prop where
  pg : PGs X tgs (gNames is)
  len : tgs.length = is.length
  star : ∀ e ∈ tgs, noStar e = true
theorem egs_nil : EGs X [] [] := ⟨pgs_nil, rfl, fun _ h => by cases h⟩
theorem egs_cons {i : Nat} {x : Str} {p : Pos} {es : List Expr} {is : List Nat} (hN : X.N.Nodup) (hi : X.N[i]? = some x) (hx : Loc X.env.scope x) (hf : X.fn x = true ∨ X.env.scope.names.lookup x = some .local) (h : EGs X es is) : EGs X (.Name x p :: es) (i :: is) := by
  refine ⟨pgs_cons (pg_name hN hi hx hf) h.pg (by rw [each_cons rfl]; rfl), congrArg (· + 1) h.len, fun e he => ?_⟩
  rcases List.mem_cons.mp he with e1 | e1
  · subst e1
    rfl
  · exact h.star e e1
theorem each_len {env : PySem.Env} : ∀ {es : List Expr}, (∀ e ∈ es, noStar e = true) → (assignEach es env).length = es.length ∧ (assignEach es env).findIdx? (·.1) = none
  | [], _ => ⟨rfl, rfl⟩
  | e :: es, h => by
    have ih := each_len (env := env) (es := es) fun x hx => h x (List.mem_cons_of_mem _ hx)
    rw [each_cons (h e List.mem_cons_self)]
    refine ⟨by rw [List.length_cons, List.length_cons, ih.1], ?_⟩
    rw [List.findIdx?_cons, ih.2]
    rfl
structure EGn (X : Cx) (tgs : List Expr) (ts : List GT) : Prop where
  pg : PGs X tgs (gNest X.K ts)
  len : tgs.length = ts.length
  star : ∀ e ∈ tgs, noStar e = true
theorem egn_nil : EGn X [] [] := ⟨pgs_nil, rfl, fun _ h => by cases h⟩
theorem egn_n {i : Nat} {x : Str} {p : Pos} {es : List Expr} {ts : List GT} (hN : X.N.Nodup) (hi : X.N[i]? = some x) (hx : Loc X.env.scope x) (hf : X.fn x = true ∨ X.env.scope.names.lookup x = some .local) (h : EGn X es ts) : EGn X (.Name x p :: es) (.n i :: ts) := by
  refine ⟨pgs_cons (pg_name hN hi hx hf) h.pg (by rw [each_cons rfl]; rfl), congrArg (· + 1) h.len, fun e he => ?_⟩
  rcases List.mem_cons.mp he with e1 | e1
  · subst e1
    rfl
  · exact h.star e e1
theorem egn_t {is : List Nat} {us : List Expr} {k : Nat} {p : Pos} {es : List Expr} {ts : List GT} (hc : X.calm = true) (h1 : EGs X us is) (h : EGn X es ts) : EGn X (.Tuple us k p :: es) (.ns is :: ts) := by
  obtain ⟨l1, l2⟩ := each_len (env := X.env) h1.star
  refine ⟨pgs_cons (pg_tup hc h1.pg (l1.trans h1.len) l2) h.pg (by rw [each_cons rfl]; rfl), congrArg (· + 1) h.len, fun e he => ?_⟩
  rcases List.mem_cons.mp he with e1 | e1
  · subst e1
    rfl
  · exact h.star e e1
theorem eg_nest {es : List Expr} {ts : List GT} {k : Nat} (hc : X.calm = true) (h : EGn X es ts) : EG X (.Tuple es k pos) (.nest ts) := by
  obtain ⟨l1, l2⟩ := each_len (env := X.env) h.star
  exact pg_tup hc h.pg (l1.trans h.len) l2
theorem eg_tup {es : List Expr} {is : List Nat} {k : Nat} (hc : X.calm = true) (h : EGs X es is) : EG X (.Tuple es k pos) (.names is) := by
  obtain ⟨l1, l2⟩ := each_len (env := X.env) h.star
  refine ⟨fun pins s σ H v u Q I r hw => ?_⟩
  rcases hw with hw | hw
  · exact (pg_tup hc h.pg (l1.trans h.len) l2).run pins s σ H v u Q I r hw
  · exact (pg_unl hc h.pg (l1.trans h.len) l2).run pins s σ H v u Q I r hw
end

/-! ### pairs that are walked -/
section
variable {T : Tab} {K : PySem.W.Frag} {g : Gh} {H : Hp}
theorem pairsL_len : ∀ {xs ys : List Val}, (pairsL xs ys).length = min xs.length ys.length
  | [], _ => by simp [pairsL]
  | _ :: _, [] => by simp [pairsL]
  | x :: xs, y :: ys => by
    rw [show pairsL (x :: xs) (y :: ys) = mkTup [x, y] :: pairsL xs ys from rfl, List.length_cons, pairsL_len, List.length_cons, List.length_cons]
    omega
theorem pairsL_get : ∀ {xs ys : List Val} {i : Nat} {x y : Val}, xs[i]? = some x → ys[i]? = some y → (pairsL xs ys)[i]? = some (mkTup [x, y])
  | [], _, _, _, _, e, _ => by simp at e
  | _ :: _, [], _, _, _, _, e => by simp at e
  | a :: xs, b :: ys, 0, x, y, e1, e2 => by
    simp at e1 e2
    subst e1
    subst e2
    rfl
  | a :: xs, b :: ys, i + 1, x, y, e1, e2 => pairsL_get (i := i) (xs := xs) (ys := ys) (by simpa using e1) (by simpa using e2)
/-- a new pair is laid -/
theorem pair_new {i : Nat} {g2 : Gh} {H2 H3 : Hp} {v : V} {f h : Nat → Option V} {xs ys : List Val} (G : Good T g2 H2) (hx : ∀ u, f i = some u → ∃ x, xs[i]? = some x ∧ Rep K T g2 u x) (hy : ∀ u, h i = some u → ∃ x, ys[i]? = some x ∧ Rep K T g2 u x)
    (y : YPair f h i H2 v H3) : ∃ z g3, (pairsL xs ys)[i]? = some z ∧ Step g2 H2 g3 H3 ∧ Good T g3 H3 ∧ Rep K T g3 v z := by
  obtain ⟨p, a, b, rfl, np, rfl, e1, e2⟩ := y
  obtain ⟨x, h1, r1⟩ := hx a e1
  obtain ⟨z, h2, r2⟩ := hy b e2
  refine ⟨_, g2.add p (.tup [a, b]), pairsL_get h1 h2, .new G np, G.new np (fun ps z => by cases z), ?_⟩
  exact Reps.tup (Reps.mono (g := g2) (g' := g2.add p (.tup [a, b])) (Same.add (G.zfree np)) (fun _ d => d) (.cons r1 (.cons r2 .nil))) (.inl (.inl upd_same))
end
end Rf

set_option Elab.async false
set_option linter.all false
set_option maxRecDepth 100000
set_option maxHeartbeats 4000000
/-! R6b: enumerate(x, start=k), x a tuple. -/
namespace Rf
open PySem PySem.Spec PyProof.Rows L2
/-- the tuple xs at a, each item in a new pair, counted from c on -/
def Itec (K : PySem.W.Frag) (a : Addr) (xs : List V) (c : Int) : It :=
  ⟨fun i H => SqT K H a xs ∧ i < xs.length, fun i H v H' => ∃ T x, v = .ref T ∧ H T = none ∧ H' = upd H T (.tup [.int (c + (i : Nat)), x]) ∧ xs[i]? = some x, fun i H => SqT K H a xs ∧ xs.length ≤ i⟩
theorem turn_enumC {P : Program} {w : World} {K : PySem.W.Frag} {elts : List Expr} {kk : Nat} {tpos : Pos} (a e it : Addr) (xs : List V) (c : Int) :
    Turn P w K (.Tuple elts kk tpos) (Itec K a xs c) [e, it] e (fun i h => (∃ old, IsEnum h e it (c + (i : Nat)) old) ∧ h.IsTupleIter it a i ∧ e ≠ it ∧ a ≠ it ∧ a ≠ e ∧ i ≤ xs.length) where
  mem := by simp
  obj := fun i h st b hb => by
    obtain ⟨⟨old, he⟩, ⟨o, ho, hc, hd⟩, _⟩ := st
    have e' : b = e ∨ b = it := by simpa using hb
    rcases e' with z | z
    · rw [z]; exact ⟨_, he, fun v q => nomatch q⟩
    · rw [z]; exact ⟨o, ho, fun v q => by rw [hd] at q; cases q⟩
  keep := fun i h h' st k => let ⟨⟨old, he⟩, hi, hne⟩ := st; ⟨⟨old, k e (by simp) _ he⟩, hi.at fun o q => k it (by simp) o q, hne⟩
  item := by
    intro X hP hw hK hc i pins s σ H E I hf st hg
    subst hP hw hK
    obtain ⟨⟨old, he⟩, hit, hne, hai, hae, hin⟩ := st
    obtain ⟨hq, hlx⟩ := hg
    have hx : xs[i]? = some xs[i] := List.getElem?_eq_getElem hlx
    generalize xs[i] = x at hx
    obtain ⟨its, rv, p, hz⟩ := I.tuple hq
    obtain ⟨u, hu, ru⟩ := rv.get hx
    have hel : e < s.heap.objs.size := Heap.lt_size he
    have hil : it < s.heap.objs.size := by obtain ⟨_, q, _⟩ := hit; exact Heap.lt_size q
    have hlt : i < its.toArray.size := by
      have := rv.length
      have := (List.getElem?_eq_some_iff.mp hx).1
      simp
      omega
    have p' : s.heap.IsTuple a its.toArray := p
    refine wpAny_pyNext_enum_itemC (Draws.tuple (A := X.A.in1) (I.ok.hd hc) it a hai its.toArray) he ⟨hit, p'⟩ hlt hne (by simp [hne, Ne.symm hae]) fun y h' tk hy ho hst hT hsz hk => ?_
    have ey : y = u := by
      have hy : its.toArray[i]? = some y := hy
      rw [show its.toArray[i]? = some u by simpa using hu] at hy
      exact (Option.some.inj hy).symm
    subst ey
    refine ⟨_, rfl, wpAny_letOwnedTupleGo_enum (s := { s with heap := h', toks := tk + 1 }) ho fun h'' he' sb => ?_⟩
    have hT2 : h''.get? s.heap.objs.size = some { cls := .type "tuple", data := .seq #[.int (c + (i : Nat)) tk, y] } := (sb.2 _ (Nat.ne_of_gt hel)).trans hT
    have new : ObjOk X.prog X.w (upd H s.heap.objs.size (.tup [.int (c + (i : Nat)), x])) h'' s.heap.objs.size (.tup [.int (c + (i : Nat)), x]) :=
      ⟨by show 2 ≤ sizeLine; decide, [.int (c + (i : Nat)) tk, y], .cons ⟨_, rfl⟩ (.cons ru .nil), ⟨_, hT2, rfl, _, rfl⟩⟩
    have I1 : L2.Inv X pins σ (upd H s.heap.objs.size (.tup [.int (c + (i : Nat)), x])) { s with heap := h'', toks := tk + 1 } :=
      I.turnedNew (ch := [e, it]) (fun b ob hb q => (sb.2 b (fun z => hb (by simp [z]))).trans (hk b ob (fun z => hb (by simp [z])) (fun z => hb (by simp [z])) q)) hf (Nat.le_refl _) new
    refine ⟨.ref s.heap.objs.size, _, I1, rfl, ⟨_, x, rfl, I.hok.fresh (Nat.le_refl _), rfl, hx⟩, ⟨⟨y, ?_⟩, hst.1.at fun o q => (sb.2 it (Ne.symm hne)).trans q, hne, hai, hae, hlx⟩, fun b hb => ?_⟩
    · have e1 : c + ((i + 1 : Nat) : Int) = c + (i : Int) + 1 := by omega
      rw [e1]; exact he'
    · have hb' : b < s.heap.objs.size := by
        have e' : b = e ∨ b = it := by simpa using hb
        rcases e' with z | z
        · rw [z]; exact hel
        · rw [z]; exact hil
      rw [upd_ne (Nat.ne_of_lt hb')]
      exact (hf b hb).1
  done := by
    intro X hP hw hK hc i pins s σ H E I hf st hg
    subst hP hw hK
    obtain ⟨⟨old, he⟩, hit, hne, hai, hae, hin⟩ := st
    obtain ⟨hq, hx⟩ := hg
    obtain ⟨its, rv, p, hz⟩ := I.tuple hq
    obtain ⟨f0, f1, f2, f3, f4, f5⟩ := hf it (by simp)
    have hl := rv.length
    have p' : s.heap.IsTuple a its.toArray := p
    have en : i = its.toArray.size := by
      simp
      omega
    subst en
    exact wpAny_pyNext_enum_endD (Draws.tuple (A := X.A.in1) (I.ok.hd hc) it a hai its.toArray) he ⟨hit, p'⟩ fun h' eb => ⟨rfl, I.turned (t' := s.toks) (fun b o hb q => eb b o hb q) f0 f1 f3 f4 f5⟩
  self := fun A i s Q E st h => let ⟨⟨_, he⟩, _⟩ := st; wpAny_pyIter_enum he h
section
variable {M : Model} {A : Around} {E : Value → Shared → Prop} {s : Shared} {env : PySem.Env}
theorem callWith_typeK {pos : Pos} {T : String} {e : Expr} {rest : List Expr} {kws : List Keyword} {Q : Value → Shared → Prop}
    (h : wpAny M A (spliced (backTo pos (starEach (e :: rest) env))) (fun vs s₁ => wpAny M A (evalAll ((backToKw pos (keywordEach kws env)).map (·.2)))
      (fun kvs s₂ => wpAny M A (call (.type T) vs (((backToKw pos (keywordEach kws env)).filterMap (·.1)).zip kvs)) Q E s₂) E s₁) E s)
    (he : backTo pos (starEach (e :: rest) env) = (false, eval e env) :: backTo pos (starEach rest env) := by rfl)
    (hplain : (backTo pos (starEach (e :: rest) env)).any (·.1) = false := by rfl)
    (hall : (backToKw pos (keywordEach kws env)).all (·.1.isSome) = true := by rfl)
    (hkw : (backToKw pos (keywordEach kws env)).any (·.1.isNone) = false := by rfl) :
    wpAny M A (callWith pos (.type T) [] (backTo pos (starEach (e :: rest) env)) (backToKw pos (keywordEach kws env))) Q E s := by
  have h2 : wpAny M A (evalArgs (.type T) true (backTo pos (starEach (e :: rest) env)) (backToKw pos (keywordEach kws env))) (fun a s₁ => wpAny M A (call (.type T) ([] ++ a.pos) a.kw) Q E s₁) E s := by
    rw [he] at h ⊢
    exact PyProof.Rows.evalArgs_kwB hall h
  unfold callWith
  refine wpAny_bind (wpAny_holding (wpAny_mono h2 (fun a s₁ h₁ => wpAny_bind (wpAny_standAt ?_)) fun _ _ x => x))
  simp only [hplain, hkw, Bool.or_false]
  refine wpAny_bind (wpAny_pure ?_)
  exact wpAny_bind (wpAny_mono h₁ (fun r s₂ hr => wpAny_bind (wpAny_holding (wpAny_point (wpAny_pure hr)))) fun _ _ x => x)
end
def iEnumC (K : PySem.W.Frag) (c : Int) (ta : TA) : TI := fun σ H R => ta σ H fun vs H1 => ∃ a xs, vs = [.ref a] ∧ SqT K H1 a xs ∧ R (Itec K a xs c) H1
theorem pi_enumS {X : Cx} {e : Expr} {ta : TA} {p pos tpos kp kpos : Pos} {elts : List Expr} {kk j : Nat} {c : Int} (hg : Gl X "enumerate") (hm : X.mg "enumerate" = none) (ha : PA X [e] ta) (h0 : -(2 ^ 63) ≤ c) (h1 : c < 2 ^ 63) (hs : starEach [e] X.env = [(false, eval e X.env)] := by rfl) :
    PI X (.Tuple elts kk tpos) (.Call (.Name "enumerate" p) [e] [⟨some (Str.ofString "start"), .Constant (.int c) j kp, kpos⟩] pos) (iEnumC X.K c ta) := by
  refine ⟨fun pins s σ H R I h => ?_⟩
  refine wpAny_Call_Name_kw (ld_blt I hg hm PyProof.Rows.boot_enumerate ?_)
  refine callWith_typeK (thn (ha.run pos pins s σ H _ I h) fun us s1 ⟨vs, H1, I1, r1, q1⟩ => thn ((pk_cons (pe_int (j := j)) pk_nil).run pos pins s1 σ H1 (fun zs H2 => zs = [.int c] ∧ H2 = H1) I1 ⟨rfl, rfl⟩) fun ws s2 ⟨zs, H2, I2, r2, q2⟩ => ?_) (by rw [hs]; rfl) (by rw [hs]; rfl)
  obtain ⟨rfl, rfl⟩ := q2
  obtain ⟨a, xs, ex, hq, q⟩ := q1
  subst ex
  cases r1 with
  | cons r rr =>
    cases rr
    cases r
    cases r2 with
    | cons r' rr' =>
      cases rr'
      obtain ⟨t, rfl⟩ := r'
      obtain ⟨its, rv, p', hz⟩ := I2.tuple hq
      have p2 : s2.heap.IsTuple a its.toArray := p'
      have hal : a < s2.heap.objs.size := p'.lt
      show wpAny _ _ (call (.type "enumerate") [.ref a] [(Str.ofString "start", .int c t)]) _ _ s2
      refine enum_begins_start (begins_tuple a its.toArray) p2 h0 h1 fun h' he hit hsz hk => wpAny_pyIter_enum he ?_
      have I3 : L2.Inv X pins σ H2 { s2 with heap := h' } := I2.kept (t' := s2.toks) hk
      refine ⟨s2.heap.objs.size + 1, [s2.heap.objs.size + 1, s2.heap.objs.size], _, _, H2, rfl, I3, turn_enumC a (s2.heap.objs.size + 1) s2.heap.objs.size xs c, ⟨⟨.none, by simpa using he⟩, ⟨_, hit, rfl, rfl⟩, Nat.succ_ne_self _, Nat.ne_of_lt hal, Nat.ne_of_lt (Nat.lt_succ_of_lt hal), Nat.zero_le _⟩, fun b hb => ?_, q⟩
      have e' : b = s2.heap.objs.size + 1 ∨ b = s2.heap.objs.size := by simpa using hb
      have hle : s2.heap.objs.size ≤ b := by
        rcases e' with z | z
        · rw [z]; exact Nat.le_add_right _ _
        · rw [z]; exact Nat.le_refl _
      exact I2.fpOk hle (I2.hok.fresh hle)
theorem walk_enumC {K : PySem.W.Frag} {a : Addr} {xs : List V} {c : Int} : Walk (Itec K a xs c) xs.length (fun H => SqT K H a xs) (YPair (fun i => some (.int (c + (i : Nat)))) (fun i => xs[i]?)) := by
  refine ⟨fun i _ hi q => ⟨q, hi⟩, fun _ q => ⟨q, Nat.le_refl _⟩, fun i H v H' _ q y => ?_⟩
  obtain ⟨T, x, h1, h2, h3, h4⟩ := y
  exact ⟨T, .int (c + (i : Nat)), x, h1, h2, h3, rfl, h4⟩
end Rf

set_option Elab.async false
set_option linter.all false
set_option maxRecDepth 100000
set_option maxHeartbeats 1000000
/-! R7: enumerate, zip, comprehensions. -/
namespace Rf
open PySem PySem.Spec PyProof.Rows L2

/-! ### a list that a name owns, or that is being filled, is written -/
section
variable {K : PySem.W.Frag} {T : Tab} {B : Bs} {σ : L2.St} {sd : Sl} {H : Hp} {g : Gh} {D : Addr} {vs us : List V}
theorem TabS.put {P : Addr} {q : Str} (t : LamX.TabS H P q) (e : H D = some (.lst vs)) : LamX.TabS (upd H D (.lst us)) P q := by
  obtain ⟨ps, h1, h2, h3⟩ := t
  refine ⟨ps, by rw [upd_ne (ne_of h1 e fun z => by cases z)]; exact h1, h2, fun pos cv hc => ?_⟩
  obtain ⟨c, e1, e2⟩ := h3 pos cv hc
  exact ⟨c, e1, by rw [upd_ne (ne_of e2 e fun z => by cases z)]; exact e2⟩
theorem Good.put (G : Good T g H) (e : H D = some (.lst vs)) (hz : g.Z D = none) (hd : ¬ g.dc D) : Good T g (upd H D (.lst us)) where
  zs := fun b o q => by
    rw [upd_ne (show b ≠ D from fun z => by rw [z, hz] at q; cases q)]
    exact G.zs b o q
  zt := G.zt
  dc := fun b d => by
    obtain ⟨n, i, j, k, q⟩ := G.dc b d
    exact ⟨n, i, j, k, by rw [upd_ne (show b ≠ D from fun z => hd (z ▸ d))]; exact q⟩
  tb := fun p hp => TabS.put (G.tb p hp) e
  tbl := fun b ps q => by
    by_cases z : b = D
    · rw [z, upd_same] at q
      cases q
    · rw [upd_ne z] at q
      exact G.tbl b ps q
theorem Step.put {g1 : Gh} {H1 : Hp} (s : Step g1 H1 g H) (h : H1 D = Option.none) : Step g1 H1 g (upd H D (.lst us)) where
  z := s.z
  zn := s.zn
  dc := s.dc
  dn := s.dn
  hp := fun a o e n t => by
    rw [upd_ne (ne_of_none e h)]
    exact s.hp a o e n t
  there := fun a o e => by
    rw [upd_ne (ne_of_none e h)]
    exact s.there a o e
theorem SR.put (S : SR K T B g H σ sd) (e : H D = some (.lst vs)) (hz : g.Z D = none) (hd : ¬ g.dc D) (hb : B.H D = none) (n : NotOwn σ sd D) : SR K T B g (upd H D (.lst us)) σ sd := by
  refine ⟨S.good.put e hz hd, fun i s q => ?_, S.apart, S.len, S.base.put hb⟩
  · obtain ⟨v, e1, q1⟩ := S.slots i s q
    refine ⟨v, e1, ?_⟩
    cases s with
    | v x => exact q1
    | thk => exact q1
    | own xs =>
      obtain ⟨b, e2, ⟨oz, od, ws, e3, r3⟩, ob⟩ := q1
      refine ⟨b, e2, ⟨oz, od, ws, ?_, r3⟩, ob⟩
      rw [upd_ne (show b ≠ D from fun z => n i xs q (by rw [← z, ← e2]; exact e1))]
      exact e3
end

/-! ### the dice -/
section
variable {K : PySem.W.Frag} {T : Tab} {B : Bs} {σ : L2.St} {sd : Sl} {H : Hp} {g : Gh} {D : Addr} {i j k : Int}
theorem Good.dput (G : Good T g H) (hd : g.dc D) : Good T g (upd H D (.lst [.int i, .int j, .int k])) := by
  obtain ⟨hz, a, b, c, e⟩ := G.dc D hd
  refine ⟨fun d o q => ?_, G.zt, fun d h => ?_, fun p hp => TabS.put (G.tb p hp) e, fun d ps q => ?_⟩
  · rw [upd_ne (show d ≠ D from fun z => by rw [z, hz] at q; cases q)]
    exact G.zs d o q
  · by_cases z : d = D
    · subst z
      exact ⟨hz, i, j, k, upd_same⟩
    · rw [upd_ne z]
      exact G.dc d h
  · by_cases z : d = D
    · rw [z, upd_same] at q
      cases q
    · rw [upd_ne z] at q
      exact G.tbl d ps q
theorem Step.dput (hd : g.dc D) (G : Good T g H) : Step g H g (upd H D (.lst [.int i, .int j, .int k])) where
  z := fun _ _ e => e
  zn := fun _ _ e => .inl e
  dc := fun _ d => d
  dn := fun _ d => .inl d
  hp := fun a o e n _ => by
    rw [upd_ne (show a ≠ D from fun z => n (z ▸ hd))]
    exact e
  there := fun a o e => by
    by_cases z : a = D
    · exact ⟨_, by rw [z]; exact upd_same⟩
    · exact ⟨o, by rw [upd_ne z]; exact e⟩
end
section
variable {T : Tab} {X : Cx} {W : WX} {B : Bs} {pos : Pos}
theorem dice_slot {σ : L2.St} {sd : Sl} {H : Hp} {g : Gh} {i : Nat} (S : SR X.K T B g H σ sd) (e : sd[i]? = some (some (.v .dice))) : ∃ a x y z, σ[i]? = some (some (.ref a)) ∧ g.dc a ∧ H a = some (.lst [.int x, .int y, .int z]) := by
  obtain ⟨v, e1, q⟩ := S.slots i _ e
  cases q with
  | dice h =>
    obtain ⟨_, x, y, z, hh⟩ := S.good.dc _ h
    exact ⟨_, x, y, z, e1, h, hh⟩
theorem dice_at {x y z : Int} {j : Nat} (h : j < 3) : ∃ k, ixN [V.int x, .int y, .int z].length (j : Int) = some j ∧ [V.int x, .int y, .int z][j]? = some (.int k) ∧ ∀ m : Int, ∃ a b c, [V.int x, .int y, .int z].set j (.int m) = [.int a, .int b, .int c] := by
  match j, h with
  | 0, _ => exact ⟨x, rfl, rfl, fun m => ⟨m, y, z, rfl⟩⟩
  | 1, _ => exact ⟨y, rfl, rfl, fun m => ⟨x, m, z, rfl⟩⟩
  | 2, _ => exact ⟨z, rfl, rfl, fun m => ⟨x, y, m, rfl⟩⟩
theorem dgetM_inv {sd : Sl} {i j : Nat} {P : Res → Prop} {E : Nat → Option PyData → Prop} (h : (dgetM sd i j).wp P E) : sd[i]? = some (some (.v .dice)) ∧ j < 3 ∧ ∀ k : Int, P (rI k) := by
  unfold dgetM at h
  split at h
  · rename_i e
    obtain ⟨hz, h⟩ := wp_guard h
    exact ⟨e, of_decide_eq_true hz, fun k => h k rfl⟩
  · exact False.elim h
/-- x[j], x the dice -/
theorem ee_dget {i j : Nat} {x : Str} {p p2 : Pos} {l : Nat} (hN : X.N[i]? = some x) (hv : Vis X.env.scope x) (hd : (x == ("__debug__" : Str)) = false) (hcd : (x == ("__classdict__" : Str)) = false) :
    EE T X W B (.Subscript (.Name x p) (.Constant (.int j) l p2) pos) fun s => dgetM s i j := by
  refine ⟨fun pins s σ H Q I h => ?_⟩
  obtain ⟨g, sd, S, hw⟩ := h
  obtain ⟨e, hj, hw⟩ := dgetM_inv hw
  obtain ⟨a, n1, n2, n3, e1, hdc, e2⟩ := dice_slot S e
  obtain ⟨k, k1, k2, _⟩ := dice_at (x := n1) (y := n2) (z := n3) hj
  refine (pe_ix ix_seq (pe_var hN hv hd hcd) pe_int fun _ _ => rfl).run pins s σ H Q I ⟨.ref a, e1, .inl ⟨a, _, (j : Int), .int k, rfl, rfl, .inl (.inl e2), ?_, (hw k).int S⟩⟩
  unfold atI
  rw [k1]
  exact k2
end
section
variable {T : Tab} {X : Cx} {W : WX} {B : Bs} {pos : Pos}
/-! ### enumerate, zip -/
theorem rg_vals {K : PySem.W.Frag} {Z : Hp} (a : Int) : ∀ l : List Nat, RDs K Z (l.map fun (i : Nat) => V.int (a + i)) (l.map fun (i : Nat) => PyData.int (a + i))
  | [] => .nil
  | i :: r => .cons (.int _) (rg_vals a r)
theorem rgOk_of {a b : Int} (h : rgOkB a b = true) : RgOk a b := by
  unfold rgOkB at h
  simp only [Bool.and_eq_true, decide_eq_true_eq] at h
  exact ⟨h.1.1.1.1, h.1.1.1.2, h.1.1.2, h.1.2, h.2⟩
theorem ee_lrng1 {a : Expr} {m : Sl → M Res} {p p2 pos2 : Pos} (hc : X.calm = true) (hg : Gl X "list") (hm : X.mg "list" = none) (hg2 : Gl X "range") (hm2 : X.mg "range" = none) (h1 : EE T X W B a m) (hn : noStar a = true) :
    EE T X W B (.Call (.Name "list" p) [.Call (.Name "range" p2) [a] [] pos2] [] pos) fun s => (m s).bind fun x => (M.ofOpt x.int).bind fun j => .guard (rgOkB 0 j) (.ret (.l true (rgD 0 j))) := by
  refine ⟨fun pins s σ H Q I h => ?_⟩
  obtain ⟨g, sd, S, hw⟩ := h
  refine (pe_listRg hc hg hm (prg_1 hg2 hm2 h1 (star_ok hn))).run pins s σ H Q I ?_
  refine tE.step S hw fun v g1 H1 x st S1 Rx hk => ?_
  obtain ⟨j, e, hk⟩ := wp_ofOpt hk
  obtain ⟨hb, hk⟩ := wp_guard hk
  have hk : PR X.K T B σ sd Q g H (.l true (rgD 0 j)) := hk
  refine ⟨j, Rx.int e, rgOk_of hb, fun q nq => ?_⟩
  exact PR.newL (PR.weak hk st) S1 nq (rg_vals 0 _)
theorem ee_lrng2 {a b : Expr} {m m' : Sl → M Res} {p p2 pos2 : Pos} (hc : X.calm = true) (hg : Gl X "list") (hm : X.mg "list" = none) (hg2 : Gl X "range") (hm2 : X.mg "range" = none) (h1 : EE T X W B a m) (h2 : EE T X W B b m') (hn : noStar a = true) (hn' : noStar b = true) :
    EE T X W B (.Call (.Name "list" p) [.Call (.Name "range" p2) [a, b] [] pos2] [] pos) fun s => (m s).bind fun x => (m' s).bind fun y => (M.ofOpt x.int).bind fun i => (M.ofOpt y.int).bind fun j => .guard (rgOkB i j) (.ret (.l true (rgD i j))) := by
  refine ⟨fun pins s σ H Q I h => ?_⟩
  obtain ⟨g, sd, S, hw⟩ := h
  refine (pe_listRg hc hg hm (prg_2 hg2 hm2 h1 h2 (star_ok hn) (star_ok hn') (by rw [star_ok hn']; rfl))).run pins s σ H Q I ?_
  refine tE.step S hw fun v g1 H1 x st S1 Rx hk => ?_
  refine tE.step S1 (wkX hk st) fun u g2 H2 y st2 S2 Ry hk2 => ?_
  obtain ⟨i, e, hk2⟩ := wp_ofOpt hk2
  obtain ⟨j, e', hk2⟩ := wp_ofOpt hk2
  obtain ⟨hb, hk2⟩ := wp_guard hk2
  have hk2 : PR X.K T B σ sd Q g H (.l true (rgD i j)) := hk2
  refine ⟨i, j, Rx.int e, Ry.int e', rgOk_of hb, fun q nq => ?_⟩
  exact PR.newL (PR.weak hk2 (st.trans st2)) S2 nq (rg_vals i _)
theorem ei_enumS {e : Expr} {elts : List Expr} {k j : Nat} {c : Int} {tpos : Pos} {p kp kpos : Pos} {m : Sl → M Res} (hg : Gl X "enumerate") (hm : X.mg "enumerate" = none) (h1 : EE T X W B e m) (hn : noStar e = true) (h2 : -(2 ^ 62) ≤ c) (h3 : c < 2 ^ 62) :
    EI T X W B (.Tuple elts k tpos) (.Call (.Name "enumerate" p) [e] [⟨some (Str.ofString "start"), .Constant (.int c) j kp, kpos⟩] pos) fun s => (m s).bind fun r => (M.ofOpt r.tupD).bind fun xs => .ret (false, pairsL (rangeL c xs.length) (xs.map .p)) := by
  refine ⟨fun pins s σ H R I h => ?_⟩
  obtain ⟨g, sd, S, hw⟩ := h
  refine (pi_enumS hg hm (pa_cons h1 pa_nil (star_ok hn)) (by omega) (by omega) (star_ok hn)).run pins s σ H R I ?_
  refine tE.step S hw fun v g1 H1 x st S1 Rx hk => ?_
  obtain ⟨xs, e, hk⟩ := wp_ofOpt hk
  have hk : PI' X.K T B σ sd R g H (false, pairsL (rangeL c xs.length) (xs.map .p)) := hk
  unfold Res.tupD at e
  split at e
  · cases e
    obtain ⟨a, vs, e1, q, r⟩ := Rx.tupD
    have hl : (pairsL (rangeL c xs.length) (xs.map .p)).length = vs.length := by
      rw [pairsL_len, r.len]
      simp [rangeL]
    refine ⟨a, vs, by rw [e1], S1.sqT q, hk _ g1 H1 st S1 ⟨_, _, by rw [hl]; exact walk_enumC, fun g3 H3 l => Same.seqT l.1.zs (Same.seqT l.2.1 q), fun i g3 H3 y H4 hi l hy => ?_⟩⟩
    rw [hl, r.len] at hi
    refine pair_new l.1 (fun u eu => ?_) (fun u eu => ?_) hy
    · cases eu
      exact ⟨.p (.int (c + (i : Nat))), by simp [rangeL, hi], .p (.int _)⟩
    · obtain ⟨d, e1, e2⟩ := r.getV eu
      exact ⟨.p d, by rw [List.getElem?_map, e1]; rfl, .p (e2.mono l.2.1)⟩
  · cases e
theorem ei_enum {e : Expr} {elts : List Expr} {k : Nat} {tpos : Pos} {p : Pos} {m : Sl → M Res} (hg : Gl X "enumerate") (hm : X.mg "enumerate" = none) (h1 : EE T X W B e m) (hn : noStar e = true) :
    EI T X W B (.Tuple elts k tpos) (.Call (.Name "enumerate" p) [e] [] pos) fun s => (m s).bind fun r => (M.ofOpt r.list).bind fun xs => .ret (r.mine, pairsL (rangeL 0 xs.length) (xs.map .p)) := by
  refine ⟨fun pins s σ H R I h => ?_⟩
  obtain ⟨g, sd, S, hw⟩ := h
  refine (pi_enum hg hm (pa_cons h1 pa_nil (star_ok hn)) (star_ok hn)).run pins s σ H R I ?_
  refine tE.step S hw fun v g1 H1 x st S1 Rx hk => ?_
  obtain ⟨xs, e, hk⟩ := wp_ofOpt hk
  have hk : PI' X.K T B σ sd R g H (x.mine, pairsL (rangeL 0 xs.length) (xs.map .p)) := hk
  have go : ∀ {a : Addr} {vs : List V} {g2 : Gh} {b : Bool}, SqL X.K H1 a vs → RDs X.K g2.Z vs xs → (∀ g3 H3, Later T b g2 H1 g3 H3 → SqL X.K H3 a vs) → ItOk X.K T b (Ite X.K a) g2 H1 (pairsL (rangeL 0 xs.length) (xs.map .p)) := fun {a vs g2 b} q r st => by
    have hl : (pairsL (rangeL 0 xs.length) (xs.map .p)).length = vs.length := by
      rw [pairsL_len, r.len]
      simp [rangeL]
    refine ⟨_, _, by rw [hl]; exact walk_enum (xs := vs), fun g3 H3 l => st g3 H3 l, fun i g3 H3 y H4 hi l hy => ?_⟩
    rw [hl, r.len] at hi
    refine pair_new l.1 (fun u eu => ?_) (fun u eu => ?_) hy
    · cases eu
      exact ⟨.p (.int (i : Nat)), by simp [rangeL, hi], .p (.int _)⟩
    · obtain ⟨d, e1, e2⟩ := r.getV eu
      exact ⟨.p d, by rw [List.getElem?_map, e1]; rfl, .p (e2.mono l.2.1)⟩
  cases x with
  | v y =>
    unfold Res.list at e
    split at e
    · rename_i z
      cases z
      cases e
      obtain ⟨a, vs, e1, q, r⟩ := Rx.lstD
      exact ⟨a, vs, by rw [e1], S1.sqL q, hk _ g1 H1 st S1 (go (S1.sqL q) r fun g3 H3 l => l.1.zs.seq (l.2.1.seq q))⟩
    · rename_i z
      cases z
    · cases e
  | l fr ys =>
    have e : some ys = some xs := e
    cases e
    cases fr with
    | false =>
      obtain ⟨a, e1, o, _⟩ := Rx
      obtain ⟨_, _, vs, e2, r⟩ := id o
      exact ⟨a, vs, by rw [e1], .inl (.inl e2), hk _ g1 H1 st S1 (go (.inl (.inl e2)) r fun g3 H3 l => .inl (.inl ((l.2.2.2 rfl).hp a _ e2 o.2.1 fun ps z => by cases z)))⟩
    | true =>
      obtain ⟨g2, st2, S2, rx⟩ := Rx.hand S1 st (x := .p (.list xs)) rfl
      cases rx with
      | p rx =>
        cases rx with
        | lst q r =>
          rename_i a vs
          exact ⟨a, vs, rfl, S2.sqL q, hk _ g2 H1 st2 S2 (go (S2.sqL q) r fun g3 H3 l => l.1.zs.seq (l.2.1.seq q))⟩

/-! ### comprehensions -/
/-- the tests of a clause -/
def ETs (T : Tab) (X : Cx) (W : WX) (B : Bs) (es : List Expr) (m : Sl → M Bool) : Prop := PTs X es (tT X.K T B W m)
theorem ets_nil : ETs T X W B [] fun _ => .ret true := ⟨fun pins s σ H Q I h => by
  obtain ⟨g, sd, S, hw⟩ := h
  exact pts_nil.run pins s σ H Q I ((show PB X.K T B σ sd Q g H true from hw) g H .refl S)⟩
theorem ets_one {e : Expr} {m : Sl → M Bool} (h : ET T X W B e m) : ETs T X W B [e] m := pts_one h
def lcF (me : Sl → M Res) (mc : Sl → M Bool) (g : G) (sd : Sl) (x : Val) : M (List PyData) :=
  (M.ofOpt (g.put x sd)).bind fun σ' => (mc σ').bind fun k => cond k ((me σ').bind fun r => (M.ofOpt (r.toVal.bind Val.data)).bind fun d => .ret [d]) (.ret [])
theorem data_val {r : Res} {d : PyData} (h : r.toVal.bind Val.data = some d) : r.toVal = some (.p d) := by
  cases e : r.toVal with
  | none => rw [e] at h; cases h
  | some x =>
    rw [e] at h
    cases x with
    | p y => cases h; rfl
    | fn _ => cases h
    | dice => cases h
    | mt _ => cases h
abbrev W0 : WX := fun _ _ _ _ => False
theorem tE.steps {K : PySem.W.Frag} {B : Bs} {α : Type} {σ : L2.St} {sd : Sl} {g : Gh} {H : Hp} {m : Sl → M Res} {k : Res → M α} {P : α → Prop} {Q : VK} (S : SR K T B g H σ sd) (h : ((m sd).bind k).wp P (fun _ _ => False))
    (hQ : ∀ v g1 H1 x, Step g H g1 H1 → SR K T B g1 H1 σ sd → ResV K T B σ sd H g1 H1 v x → (k x).wp P (fun _ _ => False) → Q v H1) : tE K T B W0 m σ H Q :=
  ⟨g, sd, S, M.wp_mono _ ((M.wp_bind _ _ _ _).mp h) (fun x hx v g1 H1 st S1 R => hQ v g1 H1 x st S1 R hx) fun _ _ hx => hx.elim⟩
theorem tT.steps {K : PySem.W.Frag} {B : Bs} {α : Type} {σ : L2.St} {sd : Sl} {g : Gh} {H : Hp} {m : Sl → M Bool} {k : Bool → M α} {P : α → Prop} {Q : Bool → Hp → Prop} (S : SR K T B g H σ sd) (h : ((m sd).bind k).wp P (fun _ _ => False))
    (hQ : ∀ b g1 H1, Step g H g1 H1 → SR K T B g1 H1 σ sd → (k b).wp P (fun _ _ => False) → Q b H1) : tT K T B W0 m σ H Q :=
  ⟨g, sd, S, M.wp_mono _ ((M.wp_bind _ _ _ _).mp h) (fun x hx g1 H1 st S1 => hQ x g1 H1 st S1 hx) fun _ _ hx => hx.elim⟩
/-- what must hold for the rest of a comprehension -/
theorem lc_read {B : Bs} {σ : L2.St} {sd : Sl} {g0 : Gh} {H0 : Hp} {Q : VK} {me : Sl → M Res} {mc : Sl → M Bool} {g : G} {J : It} {H1 : Hp} {g1 : Gh} {b : Bool} {xs : List Val} (S1 : SR X.K T B g1 H1 σ sd) (it : ItOk X.K T b J g1 H1 xs) (hl : xs.length < 16777216)
    (st0 : Step g0 H0 g1 H1) (hw : (M.each (lcF me mc g sd) xs).wp (fun dss => PR X.K T B σ sd Q g0 H0 (.l true dss.flatten)) fun _ _ => False) (D : Addr) (hD : H1 D = none) :
    ∃ Wi : Nat → Nat → Hp → Prop, (∃ m, Wi 0 m (upd H1 D (.lst []))) ∧ ∀ i m H, Wi i m H →
      (J.stop i H ∧ Q (.ref D) H) ∨ (J.go i H ∧ ∃ Nx : Hp → Prop, (∀ H', Nx H' → ∃ m', m' < m ∧ Wi (i + 1) m' H') ∧ ∀ x H', J.yld i H x H' → tgR X.K g x (wipe σ g.slots) H' fun σ2 H2 => wipe σ2 g.slots = wipe σ g.slots ∧ tT X.K T B W0 mc σ2 H2 fun k H3 =>
        if k = true then tE X.K T B W0 me σ2 H3 fun y H4 => ∃ acc, H4 D = some (.lst acc) ∧ acc.length < sizeLine ∧ Nx (upd H4 D (.lst (acc ++ [y]))) else Nx H3) := by
  obtain ⟨Gw, Y, wk, hG, hY⟩ := it.ex
  have nD := S1.notOwn hD
  refine lc_it wk (Pv := fun i H => ∃ g2 ds dss, Step g1 H1 g2 H ∧ SR X.K T B g2 H σ sd ∧ OwnL X.K g2 H D ds ∧ ds = dss.flatten ∧ ds.length ≤ i ∧
    (M.each (lcF me mc g sd) (xs.drop i)).wp (fun r => PR X.K T B σ sd Q g0 H0 (.l true (dss ++ r).flatten)) fun _ _ => False) ?_ ?_ ?_ ?_
  · refine ⟨g1, [], [], .lay hD, S1.layL hD, ⟨S1.good.zfree hD, S1.good.dfree hD, [], upd_same, .nil⟩, rfl, Nat.le_refl _, ?_⟩
    rw [List.drop_zero]
    exact hw
  · intro i H hi ⟨g2, ds, dss, st, S2, o, _, _, _⟩
    exact hG g2 H ⟨S2.good, st.z, st.dc, fun _ => st⟩
  · intro i x H H' hi ⟨g2, ds, dss, st, S2, o, eds, hn, hw⟩ hy
    obtain ⟨z, g3, ez, st3, G3, rz⟩ := hY i g2 H x H' hi ⟨S2.good, st.z, st.dc, fun _ => st⟩ hy
    have ed : xs.drop i = z :: xs.drop (i + 1) := by
      rw [List.drop_eq_getElem_cons hi]
      rw [List.getElem?_eq_getElem hi] at ez
      rw [Option.some.inj ez]
    rw [ed] at hw
    have hw : ((lcF me mc g sd z).bind fun b => (M.each (lcF me mc g sd) (xs.drop (i + 1))).bind fun bs => .ret (b :: bs)).wp (fun r => PR X.K T B σ sd Q g0 H0 (.l true (dss ++ r).flatten)) (fun _ _ => False) := hw
    have hw := (M.wp_bind _ _ _ _).mp hw
    have S3 := S2.step st3 G3
    have o3 := o.step st3
    obtain ⟨sd', ep, hw⟩ := wp_ofOpt hw
    refine tgR_ok (T := T) (gh := g3) G3.zs rz ep fun vs ys rv hvl es => ?_
    obtain ⟨S4, _⟩ := S3.setMany rv es
    have eσ : setV g.slots vs (wipe σ g.slots) = setV g.slots vs σ := setV_wipe _ _ _ _ hvl fun _ h => h
    rw [eσ]
    refine ⟨wipe_setV _ _ _ _ fun _ h => h, ?_⟩
    have next : ∀ {g5 : Gh} {H5 : Hp} {l : List PyData}, Step g1 H1 g5 H5 → SR X.K T B g5 H5 σ sd → OwnL X.K g5 H5 D (ds ++ l) → l.length ≤ 1 → ((M.each (lcF me mc g sd) (xs.drop (i + 1))).bind fun bs => .ret (l :: bs)).wp (fun r => PR X.K T B σ sd Q g0 H0 (.l true (dss ++ r).flatten)) (fun _ _ => False) →
        ∃ g2 ds dss, Step g1 H1 g2 H5 ∧ SR X.K T B g2 H5 σ sd ∧ OwnL X.K g2 H5 D ds ∧ ds = dss.flatten ∧ ds.length ≤ i + 1 ∧ (M.each (lcF me mc g sd) (xs.drop (i + 1))).wp (fun r => PR X.K T B σ sd Q g0 H0 (.l true (dss ++ r).flatten)) fun _ _ => False := fun {g5 H5 l} st5 S5 o5 hl5 hw5 => by
      refine ⟨g5, ds ++ l, dss ++ [l], st5, S5, o5, by rw [eds, List.flatten_append]; simp, by rw [List.length_append]; omega, ?_⟩
      refine M.wp_mono _ ((M.wp_bind _ _ _ _).mp hw5) (fun r hr => ?_) fun _ _ x => x
      rw [List.append_assoc]
      exact hr
    refine tT.steps S4 hw fun k g5 H5 st5 S5 hk => ?_
    cases k with
    | false =>
      rw [if_neg Bool.false_ne_true]
      refine next (l := []) ((st.trans st3).trans st5) (S3.step st5 S5.good) ?_ (Nat.zero_le 1) hk
      rw [List.append_nil]
      exact o3.step st5
    | true =>
      rw [if_pos rfl]
      refine tE.steps S5 hk fun v g6 H6 r st6 S6 R hk2 => ?_
      obtain ⟨d, e6, hk3⟩ := wp_ofOpt hk2
      obtain ⟨g7, st7, S7, rx⟩ := R.hand S6 st6 (data_val e6)
      have st57 := st5.trans st7
      obtain ⟨hz, hd, acc, e, racc⟩ := o3.step st57
      refine ⟨acc, e, ?_, next (l := [d]) (((st.trans st3).trans st57).put hD) ((S3.step st57 S7.good).put e hz hd (S1.bsn hD) nD) ⟨hz, hd, acc ++ [v], upd_same, racc.append ?_⟩ (Nat.le_refl 1) hk3⟩
      · rw [racc.len, sizeLine_eq]
        omega
      · cases rx with
        | p rx => exact .cons rx .nil
  · intro H ⟨g2, ds, dss, st, S2, o, eds, hn, hw⟩
    rw [List.drop_length] at hw
    have hw : PR X.K T B σ sd Q g0 H0 (.l true (dss ++ []).flatten) := hw
    rw [List.append_nil, ← eds] at hw
    exact hw _ g2 H (st0.trans st) S2 ⟨D, rfl, o, S1.bsn hD, fun _ => ⟨nD, st0.none hD⟩⟩
theorem ee_lc {elt tg iter : Expr} {ifs : List Expr} {scope : Scope} {own : List (Str × Nat)} {g : G} {mi : Sl → M (Bool × List Val)} {mc : Sl → M Bool} {me : Sl → M Res} (hc : X.calm = true) (hN : X.N.Nodup) (hi : EI T X W B tg iter mi) (ok : BlkOk X.N X.env.scope scope own) (ho : own.map (·.2) = g.slots)
    (hg : ∀ (s : Shared) (H : Hp) (C : Addr) (cl : List (Str × Addr)) (fp : List Addr), EG (X.blk s H scope (compEnvC scope cl C X.env) fp) tg g)
    (ht : ∀ (s : Shared) (H : Hp) (C : Addr) (cl : List (Str × Addr)) (fp : List Addr), ETs T (X.blk s H scope (compEnvC scope cl C X.env) fp) W0 B ifs mc)
    (he : ∀ (s : Shared) (H : Hp) (C : Addr) (cl : List (Str × Addr)) (fp : List Addr), EE T (X.blk s H scope (compEnvC scope cl C X.env) fp) W0 B elt me) (hs : ∀ x, foldedSetIterable iter X.env x = pure x) :
    EE T X W B (.ListComp elt [⟨tg, iter, ifs, 0⟩] scope pos) fun s => (mi s).bind fun bx => .guard (decide (bx.2.length < 16777216)) ((M.each (lcF me mc g s) bx.2).calm.bind fun dss => .ret (.l true dss.flatten)) := by
  refine ⟨fun pins s σ H Q I h => ?_⟩
  obtain ⟨gh, sd, S, hw⟩ := h
  refine (pe_lc (g := tgR X.K g) (tt := tT X.K T B W0 mc) (te := tE X.K T B W0 me) hc hN hi ok hg (fun s H C cl fp => ht s H C cl fp) (fun s H C cl fp => he s H C cl fp) hs).run pins s σ H Q I ?_
  refine tI.step S hw fun J g1 H1 bx st S1 it hk D hD => ?_
  obtain ⟨hl, hk⟩ := wp_guard hk
  have hk := M.wp_calm _ _ _ ((M.wp_bind _ _ _ _).mp hk)
  rw [ho]
  exact lc_read S1 it (of_decide_eq_true hl) st hk D hD
/-- the same, given to a name on its line -/
theorem lc_asg {elt tg iter : Expr} {ifs : List Expr} {scope : Scope} {own : List (Str × Nat)} {g : G} {mi : Sl → M (Bool × List Val)} {mc : Sl → M Bool} {me : Sl → M Res} {i : Nat} {y : Str} {py spos : Pos} (hc : X.calm = true) (hN : X.N.Nodup) (hi : EI T X W B tg iter mi) (ok : BlkOk X.N X.env.scope scope own) (ho : own.map (·.2) = g.slots)
    (hg : ∀ (s : Shared) (H : Hp) (C : Addr) (cl : List (Str × Addr)) (fp : List Addr), EG (X.blk s H scope (compEnvC scope cl C X.env) fp) tg g)
    (ht : ∀ (s : Shared) (H : Hp) (C : Addr) (cl : List (Str × Addr)) (fp : List Addr), ETs T (X.blk s H scope (compEnvC scope cl C X.env) fp) W0 B ifs mc)
    (he : ∀ (s : Shared) (H : Hp) (C : Addr) (cl : List (Str × Addr)) (fp : List Addr), EE T (X.blk s H scope (compEnvC scope cl C X.env) fp) W0 B elt me) (hs : ∀ x, foldedSetIterable iter X.env x = pure x)
    (hy : X.N[i]? = some y) (hyl : X.env.scope.names.lookup y = some .local) (hsw : swapsWith (.ListComp elt [⟨tg, iter, ifs, 0⟩] scope pos) (some (.Name y py)) spos.line X.env = pure true) :
    PS X (.Assign [.Name y py] (.ListComp elt [⟨tg, iter, ifs, 0⟩] scope pos) spos) (tAsg (tE X.K T B W fun s => (mi s).bind fun bx => .guard (decide (bx.2.length < 16777216)) ((M.each (lcF me mc g s) bx.2).calm.bind fun dss => .ret (.l true dss.flatten))) (gName i)) := by
  refine ⟨fun pins s σ H D I h => ?_⟩
  refine (ps_setLc (g := tgR X.K g) (tt := tT X.K T B W0 mc) (te := tE X.K T B W0 me) hc hN hy hyl hsw hi ok hg (fun s H C cl fp => ht s H C cl fp) (fun s H C cl fp => he s H C cl fp) hs).run pins s σ H D I ?_
  obtain ⟨gh, sd, S, hw⟩ := h
  refine tI.step S hw fun J g1 H1 bx st S1 it hk L hL => ?_
  obtain ⟨hl, hk⟩ := wp_guard hk
  have hk := M.wp_calm _ _ _ ((M.wp_bind _ _ _ _).mp hk)
  rw [ho]
  exact lc_read S1 it (of_decide_eq_true hl) st hk L hL
end
end Rf

set_option Elab.async false
set_option linter.all false
set_option maxRecDepth 100000
set_option maxHeartbeats 1000000
/-! R7b: min and max of two data. -/
namespace Rf
open PySem PySem.Spec PyProof.Rows L2
section
variable {prog : Program} {w : World} {A : Around} {E : Value → Shared → Prop} {s : Shared} {a b : Value} {x y : PyData} {as bs : List Addr} {Q : Value → Shared → Prop}
theorem alikeAll_two (h : alike2 x y = true) : PySem.W.AlikeAll [x, y] ∧ PyData.depthAll [x, y] ≤ 64 := by
  unfold alike2 at h
  simp only [Bool.and_eq_true, decide_eq_true_eq] at h
  obtain ⟨⟨⟨⟨⟨⟨⟨h1, h2⟩, h3⟩, h4⟩, h5⟩, h6⟩, h7⟩, h8⟩ := h
  refine ⟨⟨fun p hp q hq => ?_, fun p hp z => ?_⟩, ?_⟩
  · rcases List.mem_cons.mp hp with rfl | hp
    · rcases List.mem_cons.mp hq with rfl | hq
      · exact h1
      · rcases List.mem_cons.mp hq with rfl | hq
        · exact h2
        · cases hq
    · rcases List.mem_cons.mp hp with rfl | hp
      · rcases List.mem_cons.mp hq with rfl | hq
        · exact h3
        · rcases List.mem_cons.mp hq with rfl | hq
          · exact h4
          · cases hq
      · cases hp
  · subst z
    rcases List.mem_cons.mp hp with rfl | hp
    · cases h5
    · rcases List.mem_cons.mp hp with rfl | hp
      · cases h6
      · cases hp
  · show Nat.max x.depth (Nat.max y.depth 0) ≤ 64
    exact Nat.max_le.mpr ⟨h7, Nat.max_le.mpr ⟨h8, Nat.zero_le _⟩⟩
theorem two_at {f : Nat → Nat → Bool} {v : Value} (h : #[a, b][argBest f 1]? = some v) : v = cond (f 1 0) b a := by
  have e : argBest f 1 = if f 1 0 then 1 else 0 := by simp [argBest]
  rw [e] at h
  cases q : f 1 0 with
  | true =>
    rw [q] at h
    exact (Option.some.inj h).symm
  | false =>
    rw [q] at h
    exact (Option.some.inj h).symm
theorem min2H (hh : A.handled = none) (ra : Reads s.heap a x as) (rb : Reads s.heap b y bs) (hal : alike2 x y = true) (hu : A.units + 200 < cLine)
    (h : ∀ h' tk, (∀ d o, s.heap.get? d = some o → h'.get? d = some o) → Q (cond (PySem.W.dataLt y x) b a) { s with heap := h', toks := tk }) : wpAny (model prog w) A (call (.builtin "min") [a, b]) Q E s := by
  obtain ⟨al, dp⟩ := alikeAll_two hal
  generalize e1 : ({ s with heap := s.heap.push { cls := .type "tuple", data := .seq #[a, b] } } : Shared) = s1
  have k1 : ∀ d o, s.heap.get? d = some o → s1.heap.get? d = some o := fun d o e => by rw [← e1]; exact Heap.get?_push_of_some _ e
  have hT : s1.heap.IsTuple s.heap.objs.size #[a, b] := by rw [← e1]; exact ⟨_, Heap.get?_push_size _ rfl, rfl, 0, rfl⟩
  have rr : ReadsAll s1.heap #[a, b].toList [x, y] (as ++ (bs ++ [])) := .cons (PySem.W.reads_keeps k1 ra) (.cons (PySem.W.reads_keeps k1 rb) .nil)
  have hsz : s1.heap.objs.size = s.heap.objs.size + 1 := by rw [← e1]; exact Heap.size_push ..
  refine call_function_tree F.kind_min F.plain_min F.entry_min (F.args_min2 _ _) ?_
  have bp : Builtin.Builtins.bindParams "min" ["key", "default"] 0 ⟨[], []⟩ = pure [none, none] := rfl
  refine wpAny_bind (wpAny_of_eq bp ?_)
  show wpAny (model prog w) A.in1 (newTuple [a, b] >>= _) _ _ _
  refine wpAny_bind (wpAny_newObj_type ?_)
  rw [show (#[a, b] : Array Value) = [a, b].toArray from rfl] at e1
  rw [e1]
  have fin : ∀ (s2 : Shared) (v : Value) (s' : Shared) (o : Obj), s2 = { s1 with heap := s1.heap.push o } → #[a, b][argBest (fun i j => PySem.W.dataLt ([x, y].getD i .none) ([x, y].getD j .none)) (#[a, b].size - 1)]? = some v → Moved [s1.heap.objs.size] (fun a b => b = a) s2 s' → Q v s' := fun s2 v s' o e2 hP m => by
    obtain ⟨h', tk, rfl, hk'⟩ := PySem.W.moved_old e2 rfl m
    have q := two_at hP
    subst q
    subst e1
    exact h h' tk fun d o e => hk' d o (k1 d o e)
  refine wpAny_bind (wpAny_mono (PySem.W.iter_tupleW (A := A.in1) hh hT (Q := fun it s2 => ∃ I o, it = .ref I ∧ I = s1.heap.objs.size ∧ s2 = { s1 with heap := s1.heap.push o } ∧ ∃ SS, WalksS prog w A.in1 I [I, s.heap.objs.size] [I] (fun a b => b = a) #[a, b].size (fun i v => #[a, b][i]? = some v) SS ∧ SS 0 s2 ∧ (∀ d ∈ [I, s.heap.objs.size], d < s2.heap.objs.size) ∧ (∀ d o, s1.heap.get? d = some o → d ∉ [I]) ∧ ∀ d o, s1.heap.get? d = some o → s2.heap.get? d = some o)
    fun s2 e W st hfp hw hk => ⟨_, _, rfl, rfl, e, _, W, st, hfp, hw, hk⟩) (fun it s2 ⟨I, o, ei, eI, e2, SS, W, st, hfp, hw, hk⟩ => ?_) fun _ _ z => z)
  subst ei
  subst eI
  refine wpAny_bind (wpAny_newObj_type ?_)
  have hf : s2.heap.objs.size ∉ [s1.heap.objs.size, s.heap.objs.size] := fun hm => Nat.lt_irrefl _ (hfp _ hm)
  have un : (A.in1).units + PyData.depthAll [x, y] < cLine := by
    show A.units + 1 + _ < _
    omega
  have nm : (toString "min" ++ toString ".loop" : String) = "min.loop" := by decide
  rw [nm]
  exact wpAny_pure ⟨plainId_quiet F.plain_min_loop _, PySem.codeAny_min_loop_firstH W s1.heap hw _ (PySem.W.cmpIn_lt rr al un) s2.heap.objs.size hf (PySem.fresh_in hk) _ (by show 0 < 2; omega) (fun d o e => Heap.get?_push_of_some _ (hk d o e)) (W.frame 0 s2 _ s2.toks st (Nat.le_refl _) fun d _ o e => Heap.get?_push_of_some _ e) (Heap.get?_push_size _ rfl)
    fun v s' hP hm => fin s2 v s' o e2 hP (Moved.drop_new (tk := s2.toks) hm (Nat.le_refl _))⟩
theorem max2H (hh : A.handled = none) (ra : Reads s.heap a x as) (rb : Reads s.heap b y bs) (hal : alike2 x y = true) (hu : A.units + 200 < cLine)
    (h : ∀ h' tk, (∀ d o, s.heap.get? d = some o → h'.get? d = some o) → Q (cond (PySem.W.dataLt x y) b a) { s with heap := h', toks := tk }) : wpAny (model prog w) A (call (.builtin "max") [a, b]) Q E s := by
  obtain ⟨al, dp⟩ := alikeAll_two hal
  generalize e1 : ({ s with heap := s.heap.push { cls := .type "tuple", data := .seq #[a, b] } } : Shared) = s1
  have k1 : ∀ d o, s.heap.get? d = some o → s1.heap.get? d = some o := fun d o e => by rw [← e1]; exact Heap.get?_push_of_some _ e
  have hT : s1.heap.IsTuple s.heap.objs.size #[a, b] := by rw [← e1]; exact ⟨_, Heap.get?_push_size _ rfl, rfl, 0, rfl⟩
  have rr : ReadsAll s1.heap #[a, b].toList [x, y] (as ++ (bs ++ [])) := .cons (PySem.W.reads_keeps k1 ra) (.cons (PySem.W.reads_keeps k1 rb) .nil)
  have hsz : s1.heap.objs.size = s.heap.objs.size + 1 := by rw [← e1]; exact Heap.size_push ..
  refine call_function_tree F.kind_max F.plain_max F.entry_max (F.args_max2 _ _) ?_
  have bp : Builtin.Builtins.bindParams "max" ["key", "default"] 0 ⟨[], []⟩ = pure [none, none] := rfl
  refine wpAny_bind (wpAny_of_eq bp ?_)
  show wpAny (model prog w) A.in1 (newTuple [a, b] >>= _) _ _ _
  refine wpAny_bind (wpAny_newObj_type ?_)
  rw [show (#[a, b] : Array Value) = [a, b].toArray from rfl] at e1
  rw [e1]
  have fin : ∀ (s2 : Shared) (v : Value) (s' : Shared) (o : Obj), s2 = { s1 with heap := s1.heap.push o } → #[a, b][argBest (fun i j => PySem.W.dataLt ([x, y].getD j .none) ([x, y].getD i .none)) (#[a, b].size - 1)]? = some v → Moved [s1.heap.objs.size] (fun a b => b = a) s2 s' → Q v s' := fun s2 v s' o e2 hP m => by
    obtain ⟨h', tk, rfl, hk'⟩ := PySem.W.moved_old e2 rfl m
    have q := two_at hP
    subst q
    subst e1
    exact h h' tk fun d o e => hk' d o (k1 d o e)
  refine wpAny_bind (wpAny_mono (PySem.W.iter_tupleW (A := A.in1) hh hT (Q := fun it s2 => ∃ I o, it = .ref I ∧ I = s1.heap.objs.size ∧ s2 = { s1 with heap := s1.heap.push o } ∧ ∃ SS, WalksS prog w A.in1 I [I, s.heap.objs.size] [I] (fun a b => b = a) #[a, b].size (fun i v => #[a, b][i]? = some v) SS ∧ SS 0 s2 ∧ (∀ d ∈ [I, s.heap.objs.size], d < s2.heap.objs.size) ∧ (∀ d o, s1.heap.get? d = some o → d ∉ [I]) ∧ ∀ d o, s1.heap.get? d = some o → s2.heap.get? d = some o)
    fun s2 e W st hfp hw hk => ⟨_, _, rfl, rfl, e, _, W, st, hfp, hw, hk⟩) (fun it s2 ⟨I, o, ei, eI, e2, SS, W, st, hfp, hw, hk⟩ => ?_) fun _ _ z => z)
  subst ei
  subst eI
  refine wpAny_bind (wpAny_newObj_type ?_)
  have hf : s2.heap.objs.size ∉ [s1.heap.objs.size, s.heap.objs.size] := fun hm => Nat.lt_irrefl _ (hfp _ hm)
  have un : (A.in1).units + PyData.depthAll [x, y] < cLine := by
    show A.units + 1 + _ < _
    omega
  have nm : (toString "max" ++ toString ".loop" : String) = "max.loop" := by decide
  rw [nm]
  exact wpAny_pure ⟨plainId_quiet F.plain_max_loop _, PySem.codeAny_max_loop_firstH W s1.heap hw _ (PySem.W.cmpIn_gt rr al un) s2.heap.objs.size hf (PySem.fresh_in hk) _ (by show 0 < 2; omega) (fun d o e => Heap.get?_push_of_some _ (hk d o e)) (W.frame 0 s2 _ s2.toks st (Nat.le_refl _) fun d _ o e => Heap.get?_push_of_some _ e) (Heap.get?_push_size _ rfl)
    fun v s' hP hm => fin s2 v s' o e2 hP (Moved.drop_new (tk := s2.toks) hm (Nat.le_refl _))⟩
end
end Rf

set_option Elab.async false
set_option linter.all false
set_option maxRecDepth 100000
set_option maxHeartbeats 1000000
/-! R8: built-in functions, zip. -/
namespace Rf
open PySem PySem.Spec PyProof.Rows L2

section
variable {T : Tab} {X : Cx} {W : WX} {B : Bs} {pos : Pos}
/-- the value f, called, does what m says -/
def BltM (T : Tab) (X : Cx) (W : WX) (f : Value) (m : List Res → M Res) : Prop :=
  ∀ (B : Bs) (g : Gh) (H H0 : Hp) (σ : L2.St) (sd : Sl) (xs : List Res) (vs : List V) (Q : VK), SR X.K T B g H σ sd → ResVs X.K T B σ sd H0 g H vs xs → (m xs).wp (PR X.K T B σ sd Q g H) (PX X.K T B W σ sd g H) →
    ∀ (pins : List (Addr × Obj)) (s : Shared) (us : List Value), L2.Inv X pins σ H s → Vals vs us → wpAny (model X.prog X.w) X.A (call f us) (EP X pins σ Q) X.xe s
theorem BltM.of {f : Value} {m : List Res → M Res} {r : List V → Hp → VK → Prop} (hc : CallR X f r)
    (h : ∀ (B : Bs) (g : Gh) (H H0 : Hp) (σ : L2.St) (sd : Sl) (xs : List Res) (vs : List V) (Q : VK), SR X.K T B g H σ sd → ResVs X.K T B σ sd H0 g H vs xs → (m xs).wp (PR X.K T B σ sd Q g H) (PX X.K T B W σ sd g H) → r vs H Q) : BltM T X W f m :=
  fun B g H H0 σ sd xs vs Q S R hw pins s us I rv => hc pins s σ H vs us Q I rv (h B g H H0 σ sd xs vs Q S R hw)
theorem ee_callB {id : String} {m : List Res → M Res} {x : Str} {p : Pos} {e : Expr} {es : List Expr} {ml : Sl → M (List Res)} (hb : BltM T X W (.builtin id) m) (hg : Gl X x) (hm : X.mg x = none) (hv : bootBuiltins x = some (.builtin id)) (hd : x ≠ "__name__" ∧ (x == ("__debug__" : Str)) = false)
    (ha : ER T X W B (e :: es) ml) (hn : ∀ a ∈ e :: es, noStar a = true) : EE T X W B (.Call (.Name x p) (e :: es) [] pos) fun s => (ml s).bind m := by
  refine ⟨fun pins s σ H Q I h => ?_⟩
  obtain ⟨g, sd, S, hw⟩ := h
  have hall : ∀ (es : List Expr), (∀ a ∈ es, noStar a = true) → (backTo pos (starEach es X.env)).any (·.1) = false := by
    intro es
    induction es with
    | nil => intro _; rfl
    | cons a r ih =>
      intro ha
      rw [star_ok (ha a List.mem_cons_self)]
      exact ih fun b hb => ha b (List.mem_cons_of_mem _ hb)
  refine wpAny_Call_Name_kw (ld_blt I hg hm hv ?_ hd.1 hd.2)
  refine PyProof.Rows.callWith_builtin1 (thn (ha.run pos pins s σ H (fun vs H1 => ∃ g1 xs, Step g H g1 H1 ∧ SR X.K T B g1 H1 σ sd ∧ ResVs X.K T B σ sd H g1 H1 vs xs ∧ (m xs).wp (PR X.K T B σ sd Q g1 H1) (PX X.K T B W σ sd g1 H1)) I
    (tR.step S hw fun vs g1 H1 xs st S1 R hk => ⟨g1, xs, st, S1, R, wkE hk st⟩)) fun us s1 ⟨vs, H1, I1, r1, g1, xs, st, S1, R, hk⟩ => ?_) (star_ok (hn e List.mem_cons_self)) (hall es fun a ha => hn a (List.mem_cons_of_mem _ ha))
  exact hb B g1 H1 H σ sd xs vs Q S1 R hk pins s1 us I1 r1
theorem ee_callTy {id : String} {m : List Res → M Res} {x : Str} {p : Pos} {e : Expr} {es : List Expr} {ml : Sl → M (List Res)} (hb : BltM T X W (.type id) m) (hg : Gl X x) (hm : X.mg x = none) (hv : bootBuiltins x = some (.type id)) (hd : x ≠ "__name__" ∧ (x == ("__debug__" : Str)) = false)
    (ha : ER T X W B (e :: es) ml) (hn : ∀ a ∈ e :: es, noStar a = true) : EE T X W B (.Call (.Name x p) (e :: es) [] pos) fun s => (ml s).bind m := by
  refine ⟨fun pins s σ H Q I h => ?_⟩
  obtain ⟨g, sd, S, hw⟩ := h
  have hall : ∀ (es : List Expr), (∀ a ∈ es, noStar a = true) → (backTo pos (starEach es X.env)).any (·.1) = false := by
    intro es
    induction es with
    | nil => intro _; rfl
    | cons a r ih =>
      intro ha
      rw [star_ok (ha a List.mem_cons_self)]
      exact ih fun b hb => ha b (List.mem_cons_of_mem _ hb)
  refine wpAny_Call_Name_kw (ld_blt I hg hm hv ?_ hd.1 hd.2)
  refine PyProof.Rows.callWith_type1 (thn (ha.run pos pins s σ H (fun vs H1 => ∃ g1 xs, Step g H g1 H1 ∧ SR X.K T B g1 H1 σ sd ∧ ResVs X.K T B σ sd H g1 H1 vs xs ∧ (m xs).wp (PR X.K T B σ sd Q g1 H1) (PX X.K T B W σ sd g1 H1)) I
    (tR.step S hw fun vs g1 H1 xs st S1 R hk => ⟨g1, xs, st, S1, R, wkE hk st⟩)) fun us s1 ⟨vs, H1, I1, r1, g1, xs, st, S1, R, hk⟩ => ?_) (star_ok (hn e List.mem_cons_self)) (hall es fun a ha => hn a (List.mem_cons_of_mem _ ha))
  exact hb B g1 H1 H σ sd xs vs Q S1 R hk pins s1 us I1 r1
section
variable {B : Bs} {σ : L2.St} {sd : Sl} {H0 H : Hp} {g : Gh} {vs : List V} {a b : Res}
theorem ResVs.one (h : ResVs X.K T B σ sd H0 g H vs [a]) : ∃ v, vs = [v] ∧ ResV X.K T B σ sd H0 g H v a := by
  cases h with
  | cons h t _ => cases t; exact ⟨_, rfl, h⟩
theorem ResVs.two (h : ResVs X.K T B σ sd H0 g H vs [a, b]) : ∃ v u, vs = [v, u] ∧ ResV X.K T B σ sd H0 g H v a ∧ ResV X.K T B σ sd H0 g H u b := by
  cases h with
  | cons h t _ =>
    cases t with
    | cons h2 t _ => cases t; exact ⟨_, _, rfl, h, h2⟩
/-- the items of a thing that is no text -/
theorem ResV.lenV {v : V} {n : Nat} {xs : List Val} (S : SR X.K T B g H σ sd) (h : ResV X.K T B σ sd H0 g H v a) (e : a.items = some xs) : LenV X.K v H xs.length := by
  obtain ⟨p, vs, rfl, q, r⟩ := h.its S e
  rcases q with q | q
  · exact .inl ⟨vs, q, r.len.symm⟩
  · exact .inr ⟨vs, q, r.len.symm⟩
end
theorem bm_len : BltM T X W (.builtin "len") (blt .len) := by
  refine BltM.of call_len fun B g H H0 σ sd xs vs Q S R hw => ?_
  have gen : ∀ (a : Res), ResVs X.K T B σ sd H0 g H vs [a] → ((M.ofOpt a.items).bind fun xs => .ret (rI xs.length)).wp (PR X.K T B σ sd Q g H) (PX X.K T B W σ sd g H) → ∃ x n, vs = [x] ∧ LenV X.K x H n ∧ Q (.int n) H := fun a R hw => by
    obtain ⟨v, rfl, r⟩ := R.one
    obtain ⟨xs, e, hw⟩ := wp_ofOpt hw
    have hw : PR X.K T B σ sd Q g H (rI xs.length) := hw
    exact ⟨v, xs.length, rfl, r.lenV (n := 0) S e, hw.int S⟩
  unfold blt at hw
  split at hw
  all_goals first
    | (rename_i z; cases z; done)
    | skip
  · obtain ⟨v, rfl, r⟩ := R.one
    obtain ⟨hz, hw⟩ := wp_guard hw
    rename_i x _ _
    have hw : PR X.K T B σ sd Q g H (rI x.length) := hw
    exact ⟨.str x, x.length, by rw [r.strD], ⟨by rw [sizeLine_eq]; exact of_decide_eq_true hz, rfl⟩, hw.int S⟩
  · exact gen _ R hw
  · exact False.elim hw
theorem bm_abs : BltM T X W (.builtin "abs") (blt .abs) := by
  refine BltM.of call_abs fun B g H H0 σ sd xs vs Q S R hw => ?_
  match xs, R, hw with
  | [a], R, hw =>
    obtain ⟨v, rfl, r⟩ := R.one
    obtain ⟨i, e, hw⟩ := wp_ofOpt hw
    have hw : PR X.K T B σ sd Q g H (rI (if i < 0 then -i else i)) := hw
    exact ⟨i, by rw [r.int e], hw.int S⟩
  | [], R, hw => exact False.elim hw
  | _ :: _ :: _, R, hw => exact False.elim hw
/-- the same, or two data -/
def TwoC (T : Tab) (X : Cx) (W : WX) (f : Value) (mx : Bool) : Prop :=
  ∀ (B : Bs) (g : Gh) (H H0 : Hp) (σ : L2.St) (sd : Sl) (a b : Res) (v u : V) (Q : VK), SR X.K T B g H σ sd → ResV X.K T B σ sd H0 g H v a → ResV X.K T B σ sd H0 g H u b → (twoD mx a b).wp (PR X.K T B σ sd Q g H) (PX X.K T B W σ sd g H) →
    ∀ (pins : List (Addr × Obj)) (s : Shared) (us : List Value), L2.Inv X pins σ H s → Vals [v, u] us → wpAny (model X.prog X.w) X.A (call f us) (EP X pins σ Q) X.xe s
theorem BltM.or2 {f : Value} {m : List Res → M Res} {r : List V → Hp → VK → Prop} {mx : Bool} (hc : CallR X f r) (h2 : TwoC T X W f mx)
    (h : ∀ (B : Bs) (g : Gh) (H H0 : Hp) (σ : L2.St) (sd : Sl) (xs : List Res) (vs : List V) (Q : VK), SR X.K T B g H σ sd → ResVs X.K T B σ sd H0 g H vs xs → (m xs).wp (PR X.K T B σ sd Q g H) (PX X.K T B W σ sd g H) →
      r vs H Q ∨ ∃ a b v u, vs = [v, u] ∧ ResV X.K T B σ sd H0 g H v a ∧ ResV X.K T B σ sd H0 g H u b ∧ (twoD mx a b).wp (PR X.K T B σ sd Q g H) (PX X.K T B W σ sd g H)) : BltM T X W f m := by
  intro B g H H0 σ sd xs vs Q S R hw pins s us I rv
  rcases h B g H H0 σ sd xs vs Q S R hw with q | ⟨a, b, v, u, rfl, r1, r2, q⟩
  · exact hc pins s σ H vs us Q I rv q
  · exact h2 B g H H0 σ sd a b v u Q S r1 r2 q pins s us I rv
theorem twoD_inv {mx : Bool} {a b : Res} {P : Res → Prop} {E : Nat → Option PyData → Prop} (h : (twoD mx a b).wp P E) : ∃ d e, a = .v (.p d) ∧ b = .v (.p e) ∧ alike2 d e = true ∧ P (.v (.p (cond (cond mx (PySem.W.dataLt d e) (PySem.W.dataLt e d)) e d))) := by
  unfold twoD at h
  split at h
  · obtain ⟨hz, h⟩ := wp_guard h
    exact ⟨_, _, rfl, rfl, hz, h⟩
  · exact False.elim h
theorem two_max (hc : X.calm = true) (U : XU X) : TwoC T X W (.builtin "max") true := by
  intro B g H H0 σ sd a b v u Q S r1 r2 hw pins s us I rv
  obtain ⟨d, e, rfl, rfl, hz, hw⟩ := twoD_inv hw
  obtain ⟨ov, ou, rfl, q1, q2⟩ := vals2 rv
  obtain ⟨as, k1⟩ := r1.reads S (d := d) rfl I q1
  obtain ⟨bs, k2⟩ := r2.reads S (d := e) rfl I q2
  refine max2H (I.ok.hd hc) k1 k2 hz U.un fun h' tk k => ?_
  cases ec : PySem.W.dataLt d e with
  | true =>
    rw [ec] at hw
    exact ⟨u, H, I.kept k, q2, hw u g H .refl S r2⟩
  | false =>
    rw [ec] at hw
    exact ⟨v, H, I.kept k, q1, hw v g H .refl S r1⟩
theorem two_min (hc : X.calm = true) (U : XU X) : TwoC T X W (.builtin "min") false := by
  intro B g H H0 σ sd a b v u Q S r1 r2 hw pins s us I rv
  obtain ⟨d, e, rfl, rfl, hz, hw⟩ := twoD_inv hw
  obtain ⟨ov, ou, rfl, q1, q2⟩ := vals2 rv
  obtain ⟨as, k1⟩ := r1.reads S (d := d) rfl I q1
  obtain ⟨bs, k2⟩ := r2.reads S (d := e) rfl I q2
  refine min2H (I.ok.hd hc) k1 k2 hz U.un fun h' tk k => ?_
  cases ec : PySem.W.dataLt e d with
  | true =>
    rw [show (bif false then PySem.W.dataLt d e else PySem.W.dataLt e d) = true from ec] at hw
    exact ⟨u, H, I.kept k, q2, hw u g H .refl S r2⟩
  | false =>
    rw [show (bif false then PySem.W.dataLt d e else PySem.W.dataLt e d) = false from ec] at hw
    exact ⟨v, H, I.kept k, q1, hw v g H .refl S r1⟩
theorem bm_max2 (hc : X.calm = true) (U : XU X) : BltM T X W (.builtin "max") (blt .max2) := by
  refine BltM.or2 (call_max2 hc) (two_max (T := T) (W := W) hc U) fun B g H H0 σ sd xs vs Q S R hw => ?_
  match xs, R, hw with
  | [a, b], R, hw =>
    obtain ⟨v, u, rfl, r1, r2⟩ := R.two
    have hw : (match a.int, b.int with | some i, some j => M.ret (rI (if j > i then j else i)) | _, _ => twoD true a b).wp (PR X.K T B σ sd Q g H) (PX X.K T B W σ sd g H) := hw
    split at hw
    · rename_i i j e1 e2
      have hw : PR X.K T B σ sd Q g H (rI (if j > i then j else i)) := hw
      exact .inl ⟨i, j, by rw [r1.int e1, r2.int e2], hw.int S⟩
    · exact .inr ⟨a, b, v, u, rfl, r1, r2, hw⟩
  | [], R, hw => exact False.elim hw
  | [_], R, hw => exact False.elim hw
  | _ :: _ :: _ :: _, R, hw => exact False.elim hw
theorem bm_min2 (hc : X.calm = true) (U : XU X) : BltM T X W (.builtin "min") (blt .min2) := by
  refine BltM.or2 (call_min2 hc) (two_min (T := T) (W := W) hc U) fun B g H H0 σ sd xs vs Q S R hw => ?_
  match xs, R, hw with
  | [a, b], R, hw =>
    obtain ⟨v, u, rfl, r1, r2⟩ := R.two
    have hw : (match a.int, b.int with | some i, some j => M.ret (rI (if j < i then j else i)) | _, _ => twoD false a b).wp (PR X.K T B σ sd Q g H) (PX X.K T B W σ sd g H) := hw
    split at hw
    · rename_i i j e1 e2
      have hw : PR X.K T B σ sd Q g H (rI (if j < i then j else i)) := hw
      exact .inl ⟨i, j, by rw [r1.int e1, r2.int e2], hw.int S⟩
    · exact .inr ⟨a, b, v, u, rfl, r1, r2, hw⟩
  | [], R, hw => exact False.elim hw
  | [_], R, hw => exact False.elim hw
  | _ :: _ :: _ :: _, R, hw => exact False.elim hw
theorem bm_int1 : BltM T X W (.type "int") (blt .int1) := by
  refine BltM.of call_int1 fun B g H H0 σ sd xs vs Q S R hw => ?_
  unfold blt at hw
  split at hw
  all_goals first
    | (rename_i z; cases z; done)
    | skip
  · obtain ⟨v, rfl, r⟩ := R.one
    rename_i i _
    have hw : PR X.K T B σ sd Q g H (rI i) := hw
    exact .inl ⟨i, by rw [r.int rfl], hw.int S⟩
  · obtain ⟨v, rfl, r⟩ := R.one
    rename_i b _
    have hw : PR X.K T B σ sd Q g H (rI (if b then 1 else 0)) := hw
    exact .inr ⟨b, by rw [r.bool rfl], hw.int S⟩
  · exact False.elim hw
theorem intsOf_rep {K : PySem.W.Frag} {Z : Hp} : ∀ {vs : List V} {ds : List PyData} {ns : List Int}, RDs K Z vs ds → intsOf ds = some ns → vs = ns.map V.int
  | _, _, _, .nil, e => by cases e; rfl
  | _, _, _, .cons (.int i) r, e => by
    obtain ⟨ms, e1, e2⟩ := Option.map_eq_some_iff.mp (show (intsOf _).map _ = some _ from e)
    subst e2
    rw [intsOf_rep r e1]
    rfl
  | _, _, _, .cons .non _, e => by cases e
  | _, _, _, .cons (.bl _) _, e => by cases e
  | _, _, _, .cons (.str _) _, e => by cases e
  | _, _, _, .cons (.lst _ _) _, e => by cases e
  | _, _, _, .cons (.tup _ _) _, e => by cases e
  | _, _, _, .cons (.dct _) _, e => by cases e
theorem boolsOf_rep {K : PySem.W.Frag} {Z : Hp} : ∀ {vs : List V} {ds : List PyData} {ns : List Bool}, RDs K Z vs ds → boolsOf ds = some ns → vs = ns.map V.bl
  | _, _, _, .nil, e => by cases e; rfl
  | _, _, _, .cons (.bl i) r, e => by
    obtain ⟨ms, e1, e2⟩ := Option.map_eq_some_iff.mp (show (boolsOf _).map _ = some _ from e)
    subst e2
    rw [boolsOf_rep r e1]
    rfl
  | _, _, _, .cons .non _, e => by cases e
  | _, _, _, .cons (.int _) _, e => by cases e
  | _, _, _, .cons (.str _) _, e => by cases e
  | _, _, _, .cons (.lst _ _) _, e => by cases e
  | _, _, _, .cons (.tup _ _) _, e => by cases e
  | _, _, _, .cons (.dct _) _, e => by cases e
theorem topI_max : ∀ (r : List Int) (n : Int), topI true n r ∈ n :: r ∧ ∀ y ∈ n :: r, y ≤ topI true n r
  | [], n => ⟨List.mem_cons_self, fun y hy => by rw [List.mem_singleton.mp hy]; exact Int.le_refl _⟩
  | k :: r, n => by
    have e : topI true n (k :: r) = topI true (cond (decide (n < k)) k n) r := rfl
    obtain ⟨h1, h2⟩ := topI_max r (cond (decide (n < k)) k n)
    have a := h2 _ List.mem_cons_self
    rw [← e] at h1 h2 a
    have b : n ≤ cond (decide (n < k)) k n ∧ k ≤ cond (decide (n < k)) k n ∧ (cond (decide (n < k)) k n = n ∨ cond (decide (n < k)) k n = k) := by
      by_cases z : n < k
      · rw [decide_eq_true z]
        exact ⟨Int.le_of_lt z, Int.le_refl _, .inr rfl⟩
      · rw [decide_eq_false z]
        exact ⟨Int.le_refl _, Int.not_lt.mp z, .inl rfl⟩
    refine ⟨?_, fun y hy => ?_⟩
    · rcases List.mem_cons.mp h1 with z | z
      · rw [z]
        rcases b.2.2 with w | w
        · rw [w]; exact List.mem_cons_self
        · rw [w]; exact List.mem_cons_of_mem _ List.mem_cons_self
      · exact List.mem_cons_of_mem _ (List.mem_cons_of_mem _ z)
    · rcases List.mem_cons.mp hy with z | hy
      · rw [z]; exact Int.le_trans b.1 a
      rcases List.mem_cons.mp hy with z | hy
      · rw [z]; exact Int.le_trans b.2.1 a
      · exact h2 y (List.mem_cons_of_mem _ hy)
theorem topI_min : ∀ (r : List Int) (n : Int), topI false n r ∈ n :: r ∧ ∀ y ∈ n :: r, topI false n r ≤ y
  | [], n => ⟨List.mem_cons_self, fun y hy => by rw [List.mem_singleton.mp hy]; exact Int.le_refl _⟩
  | k :: r, n => by
    have e : topI false n (k :: r) = topI false (cond (decide (k < n)) k n) r := rfl
    obtain ⟨h1, h2⟩ := topI_min r (cond (decide (k < n)) k n)
    have a := h2 _ List.mem_cons_self
    rw [← e] at h1 h2 a
    have b : cond (decide (k < n)) k n ≤ n ∧ cond (decide (k < n)) k n ≤ k ∧ (cond (decide (k < n)) k n = n ∨ cond (decide (k < n)) k n = k) := by
      by_cases z : k < n
      · rw [decide_eq_true z]
        exact ⟨Int.le_of_lt z, Int.le_refl _, .inr rfl⟩
      · rw [decide_eq_false z]
        exact ⟨Int.le_refl _, Int.not_lt.mp z, .inl rfl⟩
    refine ⟨?_, fun y hy => ?_⟩
    · rcases List.mem_cons.mp h1 with z | z
      · rw [z]
        rcases b.2.2 with w | w
        · rw [w]; exact List.mem_cons_self
        · rw [w]; exact List.mem_cons_of_mem _ List.mem_cons_self
      · exact List.mem_cons_of_mem _ (List.mem_cons_of_mem _ z)
    · rcases List.mem_cons.mp hy with z | hy
      · rw [z]; exact Int.le_trans a b.1
      rcases List.mem_cons.mp hy with z | hy
      · rw [z]; exact Int.le_trans a b.2.1
      · exact h2 y (List.mem_cons_of_mem _ hy)
theorem bm_max1 (hc : X.calm = true) : BltM T X W (.builtin "max") (blt .max1) := by
  refine BltM.of (cr_max hc) fun B g H H0 σ sd xs vs Q S R hw => ?_
  match xs, R, hw with
  | [a], R, hw =>
    obtain ⟨v, rfl, r⟩ := R.one
    obtain ⟨ns, e, hw⟩ := wp_ofOpt hw
    obtain ⟨ds, e1, e2⟩ := Option.bind_eq_some_iff.mp e
    obtain ⟨p, ws, rfl, q, rr⟩ := r.seqL S e1
    match ns, e2, hw with
    | [], _, hw => exact False.elim hw
    | n :: ns, e2, hw =>
      have hw : PR X.K T B σ sd Q g H (rI (topI true n ns)) := hw
      refine ⟨p, n :: ns, rfl, by rw [← intsOf_rep rr e2]; exact q, Nat.succ_pos _, fun m m1 m2 => ?_⟩
      obtain ⟨t1, t2⟩ := topI_max ns n
      rw [Int.le_antisymm (t2 m m1) (m2 _ t1)]
      exact hw.int S
  | [], R, hw => exact False.elim hw
  | _ :: _ :: _, R, hw => exact False.elim hw
theorem bm_min1 (hc : X.calm = true) : BltM T X W (.builtin "min") (blt .min1) := by
  refine BltM.of (cr_min hc) fun B g H H0 σ sd xs vs Q S R hw => ?_
  match xs, R, hw with
  | [a], R, hw =>
    obtain ⟨v, rfl, r⟩ := R.one
    obtain ⟨ns, e, hw⟩ := wp_ofOpt hw
    obtain ⟨ds, e1, e2⟩ := Option.bind_eq_some_iff.mp e
    obtain ⟨p, ws, rfl, q, rr⟩ := r.seqL S e1
    match ns, e2, hw with
    | [], _, hw => exact False.elim hw
    | n :: ns, e2, hw =>
      have hw : PR X.K T B σ sd Q g H (rI (topI false n ns)) := hw
      refine ⟨p, n :: ns, rfl, by rw [← intsOf_rep rr e2]; exact q, Nat.succ_pos _, fun m m1 m2 => ?_⟩
      obtain ⟨t1, t2⟩ := topI_min ns n
      rw [Int.le_antisymm (m2 _ t1) (t2 m m1)]
      exact hw.int S
  | [], R, hw => exact False.elim hw
  | _ :: _ :: _, R, hw => exact False.elim hw
theorem bm_sum (hc : X.calm = true) : BltM T X W (.builtin "sum") (blt .sum) := by
  refine BltM.of (cr_sum hc) fun B g H H0 σ sd xs vs Q S R hw => ?_
  match xs, R, hw with
  | [a], R, hw =>
    obtain ⟨v, rfl, r⟩ := R.one
    obtain ⟨ns, e, hw⟩ := wp_ofOpt hw
    obtain ⟨ds, e1, e2⟩ := Option.bind_eq_some_iff.mp e
    obtain ⟨p, ws, rfl, q, rr⟩ := r.seqL S e1
    have hw : PR X.K T B σ sd Q g H (rI ns.sum) := hw
    exact ⟨p, ns, rfl, by rw [← intsOf_rep rr e2]; exact q, hw.int S⟩
  | [], R, hw => exact False.elim hw
  | _ :: _ :: _, R, hw => exact False.elim hw
theorem bm_all (hc : X.calm = true) : BltM T X W (.builtin "all") (blt .all) := by
  refine BltM.of (cr_all hc) fun B g H H0 σ sd xs vs Q S R hw => ?_
  match xs, R, hw with
  | [a], R, hw =>
    obtain ⟨v, rfl, r⟩ := R.one
    obtain ⟨ns, e, hw⟩ := wp_ofOpt hw
    obtain ⟨ds, e1, e2⟩ := Option.bind_eq_some_iff.mp e
    obtain ⟨p, ws, rfl, q, rr⟩ := r.seqL S e1
    have hw : PR X.K T B σ sd Q g H (rB (ns.all id)) := hw
    exact ⟨p, ns, rfl, by rw [← boolsOf_rep rr e2]; exact q, hw.bl S⟩
  | [], R, hw => exact False.elim hw
  | _ :: _ :: _, R, hw => exact False.elim hw
theorem bm_any (hc : X.calm = true) : BltM T X W (.builtin "any") (blt .any) := by
  refine BltM.of (cr_any hc) fun B g H H0 σ sd xs vs Q S R hw => ?_
  match xs, R, hw with
  | [a], R, hw =>
    obtain ⟨v, rfl, r⟩ := R.one
    obtain ⟨ns, e, hw⟩ := wp_ofOpt hw
    obtain ⟨ds, e1, e2⟩ := Option.bind_eq_some_iff.mp e
    obtain ⟨p, ws, rfl, q, rr⟩ := r.seqL S e1
    have hw : PR X.K T B σ sd Q g H (rB (ns.any id)) := hw
    exact ⟨p, ns, rfl, by rw [← boolsOf_rep rr e2]; exact q, hw.bl S⟩
  | [], R, hw => exact False.elim hw
  | _ :: _ :: _, R, hw => exact False.elim hw
theorem bm_tuple : BltM T X W (.type "tuple") (blt .tuple) := by
  refine BltM.of call_tuple_of fun B g H H0 σ sd xs vs Q S R hw => ?_
  match xs, R, hw with
  | [a], R, hw =>
    obtain ⟨v, rfl, r⟩ := R.one
    obtain ⟨ds, e, hw⟩ := wp_ofOpt hw
    have hw : PR X.K T B σ sd Q g H (.v (.p (.tuple ds))) := hw
    unfold Res.seq at e
    split at e
    · cases e
      obtain ⟨p, ws, rfl, q, rr⟩ := r.lstD
      exact ⟨p, ws, rfl, .inl ⟨S.sqL q, fun l hl => PR.newT hw S hl rr⟩⟩
    · cases e
      obtain ⟨p, ws, rfl, q, rr⟩ := r.tupD
      exact ⟨p, ws, rfl, .inr ⟨S.sqT q, hw.atV S (.p (.tup q rr))⟩⟩
    · cases e
      obtain ⟨p, rfl, ⟨_, _, ws, e2, rr⟩, _⟩ := r
      exact ⟨p, ws, rfl, .inl ⟨.inl (.inl e2), fun l hl => PR.newT hw S hl rr⟩⟩
    · cases e
  | [], R, hw => exact False.elim hw
  | _ :: _ :: _, R, hw => exact False.elim hw
theorem bm_list : BltM T X W (.type "list") (blt .list) := by
  refine BltM.of call_list_of fun B g H H0 σ sd xs vs Q S R hw => ?_
  match xs, R, hw with
  | [a], R, hw =>
    obtain ⟨v, rfl, r⟩ := R.one
    obtain ⟨ds, e, hw⟩ := wp_ofOpt hw
    have hw : PR X.K T B σ sd Q g H (.l true ds) := hw
    unfold Res.seq at e
    split at e
    · cases e
      obtain ⟨p, ws, rfl, q, rr⟩ := r.lstD
      exact ⟨p, ws, rfl, .inl (S.sqL q), fun l hl => PR.newL hw S hl rr⟩
    · cases e
      obtain ⟨p, ws, rfl, q, rr⟩ := r.tupD
      exact ⟨p, ws, rfl, .inr (S.sqT q), fun l hl => PR.newL hw S hl rr⟩
    · cases e
      obtain ⟨p, rfl, ⟨_, _, ws, e2, rr⟩, _⟩ := r
      exact ⟨p, ws, rfl, .inl (.inl (.inl e2)), fun l hl => PR.newL hw S hl rr⟩
    · cases e
  | [], R, hw => exact False.elim hw
  | _ :: _ :: _, R, hw => exact False.elim hw
/-! ### isinstance -/
def Ty.name : Ty → String
  | .int => "int"
  | .bool => "bool"
  | .tup => "tuple"
  | .lst => "list"
  | .str => "str"
  | .dct => "dict"
/-- of which type -/
theorem isTy_ok {B : Bs} {σ : L2.St} {sd : Sl} {H0 H : Hp} {g : Gh} {v : V} {a : Res} {t : Ty} {b : Bool} (S : SR X.K T B g H σ sd) (h : ResV X.K T B σ sd H0 g H v a) (e : a.isTy t = some b) : ∃ n, TyX X.K H v (.type n) ∧ kitB n t.name = some b := by
  have seqT : ∀ {p : Addr} {xs : List V}, SqT X.K H p xs → TyX X.K H (.ref p) (.type "tuple") := fun {p xs} q => by
    rcases q with (q | ⟨o, q⟩) | q
    · exact .base (.tup q)
    · exact .fTuple q
    · obtain ⟨o, _, _, e, c, _⟩ := q
      exact .kTuple e c
  have seqL : ∀ {p : Addr} {xs : List V}, SqL X.K H p xs → TyX X.K H (.ref p) (.type "list") := fun {p xs} q => by
    rcases q with (q | ⟨o, q⟩) | q
    · exact .base (.lst q)
    · exact .base (.frz q)
    · obtain ⟨o, _, _, e, c, _⟩ := q
      exact .kList e c
  cases a with
  | l fr xs =>
    obtain ⟨p, rfl, ⟨_, _, vs, e2, _⟩, _⟩ := h
    refine ⟨"list", .base (.lst e2), ?_⟩
    have e : some (t == .lst) = some b := e
    cases e
    cases t <;> decide +kernel
  | v y =>
    have e : Rf.isTy t y = some b := e
    cases h with
    | p h =>
      cases h with
      | non => exact ⟨"NoneType", .base .non, by cases t <;> cases e <;> decide +kernel⟩
      | bl _ => exact ⟨"bool", .base (.bl _), by cases t <;> cases e <;> decide +kernel⟩
      | int _ => exact ⟨"int", .base (.int _), by cases t <;> cases e <;> decide +kernel⟩
      | str _ => exact ⟨"str", .base (.str _), by cases t <;> cases e <;> decide +kernel⟩
      | lst q _ => exact ⟨"list", seqL (S.sqL q), by cases t <;> cases e <;> decide +kernel⟩
      | tup q _ => exact ⟨"tuple", seqT (S.sqT q), by cases t <;> cases e <;> decide +kernel⟩
      | dct q => exact ⟨"dict", .base (.dK (S.good.zs _ _ q)), by cases t <;> cases e <;> decide +kernel⟩
    | fn _ => cases t <;> cases e
    | dice _ => cases t <;> cases e
    | mt q _ => exact ⟨"tuple", seqT (S.sqT q), by cases t <;> cases e <;> decide +kernel⟩
/-- isinstance(e, T) -/
theorem ee_isi {t : Ty} {e : Expr} {p p2 : Pos} {me : Sl → M Res} (h1 : EE T X W B e me) (hn : noStar e = true) (hg : Gl X "isinstance") (hm : X.mg "isinstance" = none) (hg2 : Gl X (Str.ofString t.name)) (hm2 : X.mg (Str.ofString t.name) = none) :
    EE T X W B (.Call (.Name "isinstance" p) [e, .Name (Str.ofString t.name) p2] [] pos) fun s => (me s).bind fun r => (M.ofOpt (r.isTy t)).bind fun b => .ret (rB b) := by
  refine ⟨fun pins s σ H Q I h => ?_⟩
  obtain ⟨g, sd, S, hw⟩ := h
  have hv : bootBuiltins (Str.ofString t.name) = some (.type t.name) := by cases t <;> decide +kernel
  have hne : Str.ofString t.name ≠ "__name__" := by cases t <;> decide +kernel
  have hdb : (Str.ofString t.name == ("__debug__" : Str)) = false := by cases t <;> decide +kernel
  have h2 : PE X (.Name (Str.ofString t.name) p2) (tC (.ty t.name)) := pe_bltn hg2 hm2 hv rfl hne hdb
  refine wpAny_Call_Name_kw (ld_blt I hg hm (u := .builtin "isinstance") (by decide +kernel) ?_)
  refine PyProof.Rows.callWith_builtin1 (thn ((pa_cons h1 (pa_cons h2 pa_nil) (star_ok hn)).run pos pins s σ H (fun vs H1 => rIsi X.K vs H1 Q) I ?_) fun us s1 ⟨vs, H1, I1, r1, q⟩ => call_isi pins s1 σ H1 vs us Q I1 r1 q) (star_ok hn) rfl
  refine tE.step S hw fun v g1 H1 x st S1 R hk => ?_
  obtain ⟨b, e, hk⟩ := wp_ofOpt hk
  obtain ⟨n, ty, hkb⟩ := isTy_ok S1 R e
  exact ⟨v, .ty t.name, .type n, .type t.name, b, rfl, .ty _, ty, kit_ty hkb, PR.bl (PR.weak hk st) S1⟩
/-! ### repr -/
theorem reads_none {h : Heap} {vs : List Value} {as : List Addr} (r : ReadsAll h vs [] as) : as = [] := by
  cases r
  rfl
theorem bm_repr (U : XU X) : BltM T X W (.builtin "repr") (blt .repr) := by
  intro B g H H0 σ sd xs vs Q S R hw pins s us I rv
  match xs, R, hw with
  | [a], R, hw =>
    obtain ⟨v, rfl, r⟩ := R.one
    obtain ⟨u, rfl, ru⟩ := vals1 rv
    obtain ⟨d, e, hw⟩ := wp_ofOpt hw
    obtain ⟨hz, hw⟩ := wp_guard hw
    have hw : PR X.K T B σ sd Q g H (.v (.p (.str d.shown))) := hw
    simp only [Bool.and_eq_true, decide_eq_true_eq] at hz
    obtain ⟨⟨⟨hs, hd⟩, hl⟩, hx⟩ := hz
    have hq : ∀ t, EP X pins σ Q (.str d.shown t) { s with toks := s.toks + 1 } := fun t => ⟨.str d.shown, H, I.tok _, ⟨_, rfl⟩, hw.atV S (.p (.str _))⟩
    obtain ⟨as, hr⟩ := r.reads S e I ru
    have big : ∀ {p : Addr}, u = .ref p → (d.hasDict = true → sysModules ∉ as) → wpAny (model X.prog X.w) X.A (call (.builtin "repr") [u]) (EP X pins σ Q) X.xe s := fun {p} eu hsm => by
      subst eu
      refine repr_of_reads' hr hs hsm U.gd ?_ (fun b o e => e) (fun h' t tk hk => ?_) (by rw [sizeLine_eq]; exact hl)
      · have := U.un
        omega
      · exact ⟨.str d.shown, H, I.kept hk, ⟨_, rfl⟩, hw.atV S (.p (.str _))⟩
    cases hr with
    | none => exact PySem.P.repr_of_none (hq _)
    | bool b => exact PySem.P.repr_of_bool (hq _)
    | int i t => exact PySem.P.repr_of_int (of_decide_eq_true (show decide (i.natAbs.log2 < 1920) = true from hs)) (hq _)
    | str x t => exact PySem.P.repr_of_str (hq _) (by rw [sizeLine_eq]; exact hl)
    | list _ _ _ _ => exact big rfl (PyData.noDict_hsm (by simpa [reprOk] using hx))
    | tuple _ _ _ _ => exact big rfl (PyData.noDict_hsm (by simpa [reprOk] using hx))
    | @dict a _ _ _ kvs _ _ _ _ _ h4 h5 =>
      have ek : kvs = [] := by
        cases kvs with
        | nil => rfl
        | cons _ _ => cases hx
      subst ek
      refine big rfl fun _ => ?_
      have e4 := reads_none h4
      have e5 := reads_none h5
      subst e4 e5
      have ha : (a == sysModules) = false := by
          unfold Res.data at e
          split at e
          · cases e
            cases r with
            | p r =>
              cases r with
              | dct q =>
                cases ru
                exact (dk_of I.hok (S.good.zs _ _ q)).2.1
          · cases e
          · cases e
      intro z
      simp at z
      rw [z] at ha
      simp at ha
  | [], R, hw => exact False.elim hw
  | _ :: _ :: _, R, hw => exact False.elim hw
/-! ### zip -/
theorem walk_zipT {K : PySem.W.Frag} {a b : Addr} {xs ys : List V} {n : Nat} (hn : n = min xs.length ys.length) : Walk (RZ.ItzT K a b) n (fun H => SqT K H a xs ∧ SqT K H b ys) (YPair (fun i => xs[i]?) (fun i => ys[i]?)) := by
  subst hn
  refine ⟨fun i _ hi q => ?_, fun _ q => ⟨xs, ys, q.1, q.2, by omega⟩, fun i H v H' _ q y => ?_⟩
  · have h1 : i < xs.length := by omega
    have h2 : i < ys.length := by omega
    exact ⟨xs, ys, xs[i], ys[i], q.1, q.2, by simp [h1], by simp [h2]⟩
  · obtain ⟨T, x, z, h1, h2, h3, h4, h5⟩ := y
    exact ⟨T, x, z, h1, h2, h3, h4 xs q.1, h5 ys q.2⟩

theorem zipR_inv {x y : Res} {P : Bool × List Val → Prop} {E : Nat → Option PyData → Prop} (h : (zipR x y).wp P E) :
    (∃ as bs, x = .v (.p (.list as)) ∧ y = .v (.p (.list bs)) ∧ P (false, pairsL (as.map .p) (bs.map .p))) ∨ ∃ as bs, x = .v (.p (.tuple as)) ∧ y = .v (.p (.tuple bs)) ∧ P (false, pairsL (as.map .p) (bs.map .p)) := by
  unfold zipR at h
  split at h
  · exact .inl ⟨_, _, rfl, rfl, h⟩
  · exact .inr ⟨_, _, rfl, rfl, h⟩
  · exact False.elim h
theorem ei_zip {e e2 : Expr} {elts : List Expr} {k : Nat} {tpos : Pos} {p : Pos} {m m2 : Sl → M Res} (hg : Gl X "zip") (hm : X.mg "zip" = none) (h1 : EE T X W B e m) (h2 : EE T X W B e2 m2) (hn : noStar e = true) (hn2 : noStar e2 = true) :
    EI T X W B (.Tuple elts k tpos) (.Call (.Name "zip" p) [e, e2] [] pos) fun s => (m s).bind fun r => (m2 s).bind fun r' => zipR r r' := by
  refine ⟨fun pins s σ H R I h => ?_⟩
  obtain ⟨g, sd, S, hw⟩ := h
  refine (RZ.pi_zipA hg hm (pa_cons h1 (pa_cons h2 pa_nil (star_ok hn2)) (star_ok hn)) (star_ok hn) (by rw [star_ok hn2]; rfl)).run pins s σ H R I ?_
  refine tE.step S hw fun v g1 H1 x st S1 Rx hk => ?_
  refine tE.step S1 (wkX hk st) fun u g2 H2 y st2 S2 Ry hk2 => ?_
  have Rx := Rx.step st2
  have st := st.trans st2
  rcases zipR_inv hk2 with ⟨as, bs, rfl, rfl, hk2⟩ | ⟨as, bs, rfl, rfl, hk2⟩
  · have hk : PI' X.K T B σ sd R g H (false, pairsL (as.map .p) (bs.map .p)) := hk2
    obtain ⟨a, vs, rfl, q1, r1⟩ := Rx.lstD
    obtain ⟨b, us, rfl, q2, r2⟩ := Ry.lstD
    refine ⟨a, b, vs, us, rfl, .inl ⟨S2.sqL q1, S2.sqL q2, hk _ g2 H2 st S2 ?_⟩⟩
    refine ⟨fun H => SqL X.K H a vs ∧ SqL X.K H b us, YPair (fun i => vs[i]?) (fun i => us[i]?), by rw [pairsL_len, List.length_map, List.length_map, ← r1.len, ← r2.len]; exact walk_zip rfl, fun g3 H3 l => ⟨l.1.zs.seq (l.2.1.seq q1), l.1.zs.seq (l.2.1.seq q2)⟩, fun i g3 H3 y H4 hi l hy => ?_⟩
    refine pair_new l.1 (fun w ew => ?_) (fun w ew => ?_) hy
    · obtain ⟨d, e1, e2⟩ := r1.getV ew
      exact ⟨.p d, by rw [List.getElem?_map, e1]; rfl, .p (e2.mono l.2.1)⟩
    · obtain ⟨d, e1, e2⟩ := r2.getV ew
      exact ⟨.p d, by rw [List.getElem?_map, e1]; rfl, .p (e2.mono l.2.1)⟩
  · have hk : PI' X.K T B σ sd R g H (false, pairsL (as.map .p) (bs.map .p)) := hk2
    obtain ⟨a, vs, rfl, q1, r1⟩ := Rx.tupD
    obtain ⟨b, us, rfl, q2, r2⟩ := Ry.tupD
    refine ⟨a, b, vs, us, rfl, .inr ⟨S2.sqT q1, S2.sqT q2, hk _ g2 H2 st S2 ?_⟩⟩
    refine ⟨fun H => SqT X.K H a vs ∧ SqT X.K H b us, YPair (fun i => vs[i]?) (fun i => us[i]?), by rw [pairsL_len, List.length_map, List.length_map, ← r1.len, ← r2.len]; exact walk_zipT rfl, fun g3 H3 l => ⟨Same.seqT l.1.zs (Same.seqT l.2.1 q1), Same.seqT l.1.zs (Same.seqT l.2.1 q2)⟩, fun i g3 H3 y H4 hi l hy => ?_⟩
    refine pair_new l.1 (fun w ew => ?_) (fun w ew => ?_) hy
    · obtain ⟨d, e1, e2⟩ := r1.getV ew
      exact ⟨.p d, by rw [List.getElem?_map, e1]; rfl, .p (e2.mono l.2.1)⟩
    · obtain ⟨d, e1, e2⟩ := r2.getV ew
      exact ⟨.p d, by rw [List.getElem?_map, e1]; rfl, .p (e2.mono l.2.1)⟩
end
end Rf

set_option Elab.async false
set_option linter.all false
set_option maxRecDepth 100000
set_option maxHeartbeats 4000000
/-! R8b: sorted({x: True for x in xs}), xs a list or a tuple of points. -/
namespace Rf
open PySem PySem.Spec PyProof.Rows L2
abbrev TK (P : Program) (w : World) := tupleKind (mixKind P w)
abbrev Ent := List Key × Addr × Value
/-- the dict at D has these entries, by what its own object says -/
def RawD (P : Program) (w : World) (D : Addr) (xs : List Ent) (h : Heap) : Prop :=
  ∃ o es ep, h.get? D = some o ∧ o.ExactDict ∧ o.data = .dict es ep ∧ es.toList = xs.map (entryOfKey (TK P w)) ∧ (xs.map (·.1)).Nodup
def entsOf (kbs : List (List Key × Addr)) : List Ent := kbs.foldl (fun acc p => storedH acc p.1 p.2 (.bool true)) []
section
variable {P : Program} {w : World} {D : Addr} {xs : List Ent} {h h' : Heap}
theorem RawD.stay (x : RawD P w D xs h) (k : ∀ o, h.get? D = some o → h'.get? D = some o) : RawD P w D xs h' := by
  obtain ⟨o, es, ep, e, r⟩ := x
  exact ⟨o, es, ep, k o e, r⟩
theorem RawD.of (x : h.DictOfH (TK P w) D xs) : RawD P w D xs h := by
  obtain ⟨o, es, ep, e, c, d, p, _, n⟩ := x
  exact ⟨o, es, ep, e, c, d, p, n⟩
theorem RawD.to (x : RawD P w D xs h) (k : ∀ y ∈ xs, (TK P w).is h y.1 y.2.1) : h.DictOfH (TK P w) D xs := by
  obtain ⟨o, es, ep, e, c, d, p, n⟩ := x
  exact ⟨o, es, ep, e, c, d, p, k, n⟩
theorem key_stay {k : List Key} {a : Addr} (x : (TK P w).is h k a) (e : ∀ o, h.get? a = some o → h'.get? a = some o) : (TK P w).is h' k a := by
  obtain ⟨o, its, n, e1, r⟩ := x
  exact ⟨o, its, n, e o e1, r⟩
theorem stored_mem {acc : List Ent} {k : List Key} {a : Addr} {v : Value} {y : Ent} (hy : y ∈ storedH acc k a v) : (∃ z ∈ acc, y.1 = z.1 ∧ y.2.1 = z.2.1) ∨ (y.1 = k ∧ y.2.1 = a) := by
  unfold storedH at hy
  split at hy
  · obtain ⟨z, hz, e⟩ := List.mem_map.mp hy
    refine .inl ⟨z, hz, ?_⟩
    subst e
    unfold putAt
    split <;> exact ⟨rfl, rfl⟩
  · rcases List.mem_append.mp hy with hy | hy
    · exact .inl ⟨y, hy, rfl, rfl⟩
    · rw [List.mem_singleton.mp hy]
      exact .inr ⟨rfl, rfl⟩
theorem ents_mem : ∀ (kbs : List (List Key × Addr)) (acc : List Ent) (y : Ent), y ∈ kbs.foldl (fun acc p => storedH acc p.1 p.2 (.bool true)) acc → (∃ z ∈ acc, y.1 = z.1 ∧ y.2.1 = z.2.1) ∨ (y.1, y.2.1) ∈ kbs
  | [], acc, y, h => .inl ⟨y, h, rfl, rfl⟩
  | p :: r, acc, y, h => by
    rcases ents_mem r _ y h with ⟨z, hz, e1, e2⟩ | h
    · rcases stored_mem hz with ⟨t, ht, e3, e4⟩ | ⟨e3, e4⟩
      · exact .inl ⟨t, ht, e1.trans e3, e2.trans e4⟩
      · refine .inr (List.mem_cons.mpr (.inl ?_))
        rw [e1, e2, e3, e4]
    · exact .inr (List.mem_cons_of_mem _ h)
theorem stored_len (acc : List Ent) (k : List Key) (a : Addr) (v : Value) : (storedH acc k a v).length ≤ acc.length + 1 := by
  unfold storedH
  split
  · rw [List.length_map]
    omega
  · rw [List.length_append]
    exact Nat.le_refl _
theorem ents_len : ∀ (kbs : List (List Key × Addr)) (acc : List Ent), (kbs.foldl (fun acc p => storedH acc p.1 p.2 (.bool true)) acc).length ≤ acc.length + kbs.length
  | [], acc => Nat.le_refl _
  | p :: r, acc => by
    have h1 := ents_len r (storedH acc p.1 p.2 (.bool true))
    have h2 := stored_len acc p.1 p.2 (.bool true)
    rw [List.foldl_cons, List.length_cons]
    omega
theorem ents_step {kbs : List (List Key × Addr)} {i : Nat} {p : List Key × Addr} (e : kbs[i]? = some p) : entsOf (kbs.take (i + 1)) = storedH (entsOf (kbs.take i)) p.1 p.2 (.bool true) := by
  unfold entsOf
  rw [List.take_add_one, e, List.foldl_append]
  rfl
end
theorem kind_comp {scope : Scope} {env : PySem.Env} {x : Str} {cl : List (Str × Addr)} {C : Addr} (h : scope.names.lookup x = some .local) : (compEnvC scope cl C env).kindOf x = some .local := lookup_relabel_local h
/-- a block whose names are all its own -/
def ownScope (sc : Scope) (x : Str) : Bool := decide (sc.kind = .function) && decide (sc.names.lookup x = some .local) && sc.names.all fun y => decide (y.2 = .local) && decide (sc.names.lookup y.1 = some .local)
section
variable {P : Program} {w : World} {A : Around} {E : Value → Shared → Prop} {env : PySem.Env} {s : Shared}
theorem dc_owes {x : Str} {pt pk pv : Pos} {j : Nat} {scope : Scope} {cl : List (Str × Addr)} {Q : Value → Shared → Prop} {I a : Addr} {n : Nat} {its : List Value} {kbs : List (List Key × Addr)} {St : Nat → Heap → Prop} {s2 : Shared} (hsc : ownScope scope x = true) (hd : (x == ("__debug__" : Str)) = false)
    (W : Walks P w A I [I, a] [I] n (fun i v => its.toArray[i]? = some v) St) (hI : I = s.heap.objs.size) (st : St 0 s2.heap) (h2 : ∃ h tk, s2 = { s with heap := h, toks := tk }) (old : ∀ b o, s.heap.get? b = some o → s2.heap.get? b = some o) (hI2 : I < s2.heap.objs.size) (ha : a < s.heap.objs.size)
    (hn : n = its.length) (hi : its = kbs.map fun p => Value.ref p.2) (hk : ∀ p ∈ kbs, (TK P w).is s.heap p.1 p.2) (hz : its.length ≤ sizeLine) (hu : A.units < cLine)
    (hQ : ∀ D h' tk, s.heap.objs.size ≤ D → (∀ b o, s.heap.get? b = some o → h'.get? b = some o) → RawD P w D (entsOf kbs) h' → Q (.ref D) { s with heap := h', toks := tk }) :
    DcGoes P w A E env scope cl (.Name x pt) [] (.Name x pk) (.Constant (.bool true) j pv) none Q (.ref I) s2 := by
  unfold ownScope at hsc
  simp only [Bool.and_eq_true, decide_eq_true_eq] at hsc
  obtain ⟨⟨k1, k2⟩, k3⟩ := hsc
  refine ⟨I, [I, a], [I], n, _, St, rfl, Goes.ofWalks W (fun _ _ _ _ _ _ q => by
    show wpAny _ _ (pure ()) _ _ _
    exact wpAny_pure q), st, fun D C s3 cb hD => ?_⟩
  obtain ⟨h, tk, e3⟩ := cb.only
  obtain ⟨ha2, tk2, e2⟩ := h2
  have hs2 : s.heap.objs.size < s2.heap.objs.size := by rw [← hI]; exact hI2
  have below : ∀ b o, s.heap.get? b = some o → b ≠ I ∧ b ≠ D ∧ b ≠ C := fun b o e => by
    have q := Heap.lt_size e
    have q1 := cb.newD
    have q2 := cb.newC
    refine ⟨by rw [hI]; exact Nat.ne_of_lt q, Nat.ne_of_lt (Nat.lt_of_lt_of_le (Nat.lt_trans q hs2) q1), Nat.ne_of_lt (Nat.lt_of_lt_of_le (Nat.lt_trans q hs2) q2)⟩
  have DI : D ≠ I := Nat.ne_of_gt (Nat.lt_of_lt_of_le hI2 cb.newD)
  have CI : C ≠ I := Nat.ne_of_gt (Nat.lt_of_lt_of_le hI2 cb.newC)
  refine ⟨fun i s' => (∃ h tk, s' = { s with heap := h, toks := tk }) ∧ (∀ b o, s.heap.get? b = some o → s'.heap.get? b = some o) ∧ RawD P w D (entsOf (kbs.take i)) s'.heap ∧ ∃ m, s'.heap.Ns C m, ?_, ?_, ?_, ?_⟩
  · refine ⟨⟨h, tk, by rw [e3, e2]⟩, fun b o e => cb.old b o (old b o e), ?_, _, cb.names⟩
    exact ⟨_, #[], 0, hD, ⟨rfl, rfl, rfl⟩, rfl, rfl, List.nodup_nil⟩
  · rintro i s' h' tk' ⟨⟨h1, t1, e1⟩, o1, r1, m, n1⟩ kp _
    refine ⟨⟨h', tk', by rw [e1]⟩, fun b o e => kp b o (by simpa using (below b o e).1) (o1 b o e), r1.stay fun o e => kp D o (by simpa using DI) e, m, n1.at' fun o e => kp C o (by simpa using CI) e⟩
  · rintro i v s' hlt hv hst ⟨⟨h1, t1, e1⟩, o1, r1, m, n1⟩
    have ek : kbs.length = n := by rw [hn, hi, List.length_map]
    obtain ⟨p, ep⟩ : ∃ p, kbs[i]? = some p := ⟨kbs[i], List.getElem?_eq_getElem (by omega)⟩
    have ev : v = .ref p.2 := by
      rw [hi] at hv
      have hv : (kbs.map fun p => Value.ref p.2)[i]? = some v := by simpa using hv
      rw [List.getElem?_map, ep] at hv
      exact (Option.some.inj hv).symm
    subst ev
    have pm : p ∈ kbs := List.mem_of_getElem? ep
    have hp : ((compEnvC scope cl C env).scope.kind == .class || ((compEnvC scope cl C env).scope.kind == .module && (compEnvC scope cl C env).locals != (compEnvC scope cl C env).globals)) = false := by
      rw [show (compEnvC scope cl C env).scope.kind = .function from k1]
      rfl
    refine wpAny_assign_Name (wpAny_storeName_local (kind_comp k2) (show s'.heap.Ns (compEnvC scope cl C env).locals m from n1) (fun h2 n2 sb => ?_) hp)
    have n2 : h2.Ns C _ := n2
    have kp2 : ∀ b o, b ≠ C → s'.heap.get? b = some o → h2.get? b = some o := fun b o nb e => (sb.2 b nb).trans e
    show wpAny _ _ (pure true) _ _ _
    refine wpAny_pure ?_
    rw [if_pos rfl]
    refine wpAny_Name (wpAny_loadName_local (show (compEnvC scope cl C env).scope.kind = .function from k1) (kind_comp k2) n2 (if_pos rfl) ?_) hd
    refine wpAny_Constant_bool ?_
    have old2 : ∀ b o, s.heap.get? b = some o → h2.get? b = some o := fun b o e => kp2 b o (below b o e).2.2 (o1 b o e)
    have DC := cb.ne
    have r2 := r1.stay fun o e => kp2 D o DC e
    have keys : ∀ y ∈ entsOf (kbs.take i), (TK P w).is h2 y.1 y.2.1 := fun y hy => by
      rcases ents_mem _ _ _ hy with ⟨z, hz, _⟩ | hm
      · cases hz
      · have hm := List.mem_of_mem_take hm
        exact key_stay (hk _ hm) fun o e => old2 _ o e
    have lz : (entsOf (kbs.take i)).length ≤ sizeLine := by
      have q := ents_len (kbs.take i) []
      have q2 : (kbs.take i).length ≤ kbs.length := List.length_take_le' _ _
      have q3 : (entsOf (kbs.take i)).length ≤ (kbs.take i).length := by simpa [entsOf] using q
      omega
    refine wpAny_dictSet_heap (knd := TK P w) hu (key_stay (h' := h2) (hk p pm) fun o e => old2 _ o e) (r2.to keys) (fun h3 d3 sb3 => ?_) lz
    have kp3 : ∀ b o, b ≠ D → h2.get? b = some o → h3.get? b = some o := fun b o nb e => (sb3.2 b nb).trans e
    refine ⟨⟨⟨h3, _, by rw [e1]⟩, fun b o e => kp3 b o (below b o e).2.1 (old2 b o e), by rw [ents_step ep]; exact RawD.of d3, _, n2.at' fun o e => kp3 C o (Ne.symm DC) e⟩, ?_⟩
    refine W.frame _ _ _ hst fun b hb o e => ?_
    rcases List.mem_cons.mp hb with rfl | hb
    · exact kp3 _ o (Ne.symm DI) (kp2 _ o (Ne.symm CI) e)
    · rw [List.mem_singleton.mp hb] at e ⊢
      have q1 := cb.newD
      have q2 := cb.newC
      exact kp3 a o (Nat.ne_of_lt (Nat.lt_of_lt_of_le (Nat.lt_trans ha hs2) q1)) (kp2 a o (Nat.ne_of_lt (Nat.lt_of_lt_of_le (Nat.lt_trans ha hs2) q2)) e)
  · rintro s' ⟨⟨h1, t1, e1⟩, o1, r1, m, n1⟩
    refine ⟨m, n1, fun h' sb => ?_⟩
    have ek : kbs.take n = kbs := by rw [List.take_of_length_le]; rw [hn, hi, List.length_map]; exact Nat.le_refl _
    rw [ek] at r1
    have q1 := cb.newD
    have e5 : ({ s' with heap := h' } : Shared) = { s with heap := h', toks := s'.toks } := by rw [e1]
    rw [e5]
    exact hQ D h' s'.toks (Nat.le_of_lt (Nat.lt_of_lt_of_le hs2 q1)) (fun b o e => (sb.2 b (below b o e).2.2).trans (o1 b o e)) (r1.stay fun o e => (sb.2 D cb.ne).trans e)
end
theorem rawD_ok {P : Program} {w : World} {H : Hp} {h : Heap} {D : Addr} {xs : List Ent} (r : RawD P w D xs h) : ObjOk P w H h D (.ext (RawD P w D xs)) := by
  refine ⟨r, ?_, fun h1 h2 r1 k => r1.stay k⟩
  obtain ⟨o, _, _, e, _⟩ := r
  exact ⟨o, e⟩
section
variable {X : Cx} {pins : List (Addr × Obj)} {σ : L2.St} {H : Hp} {s : Shared}
theorem key_sq (I : L2.Inv X pins σ H s) {k : List Key} {b : Addr} (h : SqT X.K H b (k.map kV)) : (TK X.prog X.w).is s.heap k b := by
  obtain ⟨its, r, ⟨o, h1, h2, n, h3⟩, _⟩ := I.tuple h
  exact ⟨o, its.toArray, n, h1, h2, h3, by simpa using items_are r⟩
theorem vals_refs_eq : ∀ {kbs : List (List Key × Addr)} {us : List Value}, Vals (kbs.map fun p => V.ref p.2) us → us = kbs.map fun p => Value.ref p.2
  | [], _, .nil => rfl
  | p :: r, _, .cons h t => by
    rw [vals_refs_eq t]
    obtain rfl := h
    rfl
def tDcK (X : Cx) (te : TE) : TE := fun σ H Q => te σ H fun v H1 => ∃ a kbs, v = .ref a ∧ (SqL X.K H1 a (kbs.map fun p => V.ref p.2) ∨ SqT X.K H1 a (kbs.map fun p => V.ref p.2)) ∧ (∀ p : List Key × Addr, p ∈ kbs → SqT X.K H1 p.2 (p.1.map kV)) ∧
  ∀ D, H1 D = none → (D == sysModules) = false → Q (.ref D) (upd H1 D (.ext (RawD X.prog X.w D (entsOf kbs))))
theorem pe_dcK {x : Str} {pt pk pv dpos : Pos} {j : Nat} {iter : Expr} {scope : Scope} {te : TE} (hc : X.calm = true) (hu : X.A.units < cLine) (he : PE X iter te) (hsc : ownScope scope x = true) (hd : (x == ("__debug__" : Str)) = false) (hs : ∀ v, foldedSetIterable iter X.env v = pure v) :
    PE X (.DictComp (.Name x pk) (.Constant (.bool true) j pv) [⟨.Name x pt, iter, [], 0⟩] scope dpos) (tDcK X te) := by
  refine ⟨fun pins s σ H Q I h => ?_⟩
  have hsc' := hsc
  unfold ownScope at hsc'
  simp only [Bool.and_eq_true, decide_eq_true_eq, List.all_eq_true] at hsc'
  obtain ⟨⟨k1, k2⟩, k3⟩ := hsc'
  refine DictComp_goes (cl := cloFrom X.env.cells scope.names []) (closure_ok fun y hy e => ?_) (fun y hy e => ?_) k1 (fun y hy _ => (k3 y hy).2) (thn (he.run pins s σ H _ I h) fun xv s1 ⟨v, H1, I1, r1, a, kbs, ev, sq, hk, q⟩ => ?_) hs
  · rw [(k3 y hy).1] at e
    cases e
  · rw [(k3 y hy).1] at e
    cases e
  · subst ev
    obtain rfl : xv = Value.ref a := r1
    have hh := I1.ok.hd hc
    have fin : ∀ D h' tk, s1.heap.objs.size ≤ D → (∀ b o, s1.heap.get? b = some o → h'.get? b = some o) → RawD X.prog X.w D (entsOf kbs) h' → EP X pins σ Q (.ref D) { s1 with heap := h', toks := tk } := fun D h' tk hD old r => by
      refine ⟨.ref D, _, I1.laid (t' := tk) old hD (rawD_ok r), rfl, q D (I1.hok.fresh hD) ?_⟩
      have big := I1.big
      have ne : D ≠ sysModules := Nat.ne_of_gt (Nat.lt_of_lt_of_le big hD)
      simpa using ne
    rcases sq with sq | sq
    · obtain ⟨its, rv, pl, hz⟩ := I1.list sq
      have ei := vals_refs_eq rv
      have hlt : a < s1.heap.objs.size := by
        obtain ⟨_, e, _⟩ := pl.isList
        exact Heap.lt_size e
      refine wpAny_pyIter_list pl.isList ?_
      refine dc_owes (s := s1) (kbs := kbs) (its := its) (a := a) hsc hd (Walks.list (A := X.A) hh s1.heap.objs.size a (Nat.ne_of_lt hlt) its.toArray) rfl ⟨⟨_, Heap.get?_push_size _ rfl, rfl, rfl⟩, pl.isList.push _⟩ ⟨_, s1.toks, rfl⟩ (fun b o e => Heap.get?_push_of_some _ e) (by
        show s1.heap.objs.size < (s1.heap.push _).objs.size
        rw [Heap.size_push]
        exact Nat.lt_succ_self _) hlt (by simp) ei (fun p hp => key_sq I1 (hk p hp)) (by rw [← rv.length]; exact hz) hu fin
    · obtain ⟨its, rv, pl, hz⟩ := I1.tuple sq
      have ei := vals_refs_eq rv
      have hlt : a < s1.heap.objs.size := pl.lt
      have pl' : s1.heap.IsTuple a its.toArray := pl
      refine wpAny_pyIter_tuple pl' ?_
      refine dc_owes (s := s1) (kbs := kbs) (its := its) (a := a) hsc hd (Walks.tuple (A := X.A) hh s1.heap.objs.size a (Nat.ne_of_lt hlt) its.toArray) rfl ⟨⟨_, Heap.get?_push_size _ rfl, rfl, rfl⟩, pl'.at fun o e => Heap.get?_push_of_some _ e⟩ ⟨_, s1.toks, rfl⟩ (fun b o e => Heap.get?_push_of_some _ e) (by
        show s1.heap.objs.size < (s1.heap.push _).objs.size
        rw [Heap.size_push]
        exact Nat.lt_succ_self _) hlt (by simp) ei (fun p hp => key_sq I1 (hk p hp)) (by rw [← rv.length]; exact hz) hu fin
end
/-! ### sorted of such a dict, of a list of points -/
def keyP (p : Int × Int) : List Key := [.inl p.1, .inl p.2]
section
variable {X : Cx} {pins : List (Addr × Obj)} {σ : L2.St} {H : Hp} {s : Shared}
/-- the point p stands at a -/
def PtAt (K : PySem.W.Frag) (H : Hp) (Gd : Addr → Int × Int → Prop) (v : Value) (p : Int × Int) : Prop := ∃ a, v = .ref a ∧ SqT K H a [.int p.1, .int p.2] ∧ Gd a p
theorem pts_alike (ps : List (Int × Int)) : PySem.W.AllAlike (ps.map pE) := PySem.W.AllAlike.of fun b b' => by
  simp [PySem.W.alike, PySem.W.alikeAll]
theorem pt_reads (I : L2.Inv X pins σ H s) {Gd : Addr → Int × Int → Prop} {v : Value} {p : Int × Int} (h : PtAt X.K H Gd v p) : Reads s.heap v (pE p) [] := by
  obtain ⟨a, rfl, q, _⟩ := h
  obtain ⟨its, r, ⟨o, h1, h2, n, h3⟩, _⟩ := I.tuple q
  cases r with
  | cons r1 r =>
    cases r with
    | cons r2 r =>
      cases r
      obtain ⟨t1, rfl⟩ := r1
      obtain ⟨t2, rfl⟩ := r2
      exact .tuple h1 h2 h3 (.cons (.int _ _) (.cons (.int _ _) .nil))
end
open PySem.W in
theorem each_pts {X : Cx} {H : Hp} {Gd : Addr → Int × Int → Prop} : ∀ {ents : List Ent} {ps : List (Int × Int)}, ents.map (·.1) = ps.map keyP → (∀ e : Ent, e ∈ ents → SqT X.K H e.2.1 (e.1.map kV) ∧ ∀ p, e.1 = keyP p → Gd e.2.1 p) → EachIs (PtAt X.K H Gd) (ents.map fun e => Value.ref e.2.1) ps
  | [], [], _, _ => .nil
  | e :: r, p :: q, h, k => by
    have h1 := (List.cons.inj h).1
    have h2 := (List.cons.inj h).2
    have z := k e List.mem_cons_self
    refine .cons ⟨e.2.1, rfl, ?_, z.2 p h1⟩ (each_pts h2 fun x hx => k x (List.mem_cons_of_mem _ hx))
    have z := z.1
    rw [show e.1 = keyP p from h1] at z
    exact z
  | [], _ :: _, h, _ => by cases h
  | _ :: _, [], h, _ => by cases h
open PySem.W in
theorem each_out {K : PySem.W.Frag} {H : Hp} {Gd : Addr → Int × Int → Prop} : ∀ {vs : List Value} {ps : List (Int × Int)}, EachIs (PtAt K H Gd) vs ps → ∃ out : List (Addr × (Int × Int)), out.map (·.2) = ps ∧ vs = out.map (fun q => Value.ref q.1) ∧ ∀ q : Addr × (Int × Int), q ∈ out → Gd q.1 q.2
  | _, _, .nil => ⟨[], rfl, rfl, fun _ z => by cases z⟩
  | _, _, .cons (b := p) ⟨a, e, _, q⟩ r => by
    obtain ⟨out, h1, h2, h3⟩ := each_out r
    refine ⟨(a, p) :: out, by rw [List.map_cons, h1], by rw [List.map_cons, h2, e], fun x hx => ?_⟩
    rcases List.mem_cons.mp hx with rfl | hx
    · exact q
    · exact h3 x hx
def rSortK (X : Cx) : List V → Hp → VK → Prop := fun vs H Q => ∃ (D : Addr) (ents : List Ent) (ps : List (Int × Int)) (Gd : Addr → Int × Int → Prop), vs = [.ref D] ∧ H D = some (.ext (RawD X.prog X.w D ents)) ∧ (D == sysModules) = false ∧ ents.map (·.1) = ps.map keyP ∧
  (∀ e : Ent, e ∈ ents → SqT X.K H e.2.1 (e.1.map kV) ∧ ∀ p, e.1 = keyP p → Gd e.2.1 p) ∧ ents.length ≤ sizeLine ∧
  ∀ p (out : List (Addr × (Int × Int))), H p = none → out.map (·.2) = ps.mergeSort (PySem.W.dataLe false pE) → (∀ q : Addr × (Int × Int), q ∈ out → Gd q.1 q.2) → Q (.ref p) (upd H p (.lst (out.map fun q => V.ref q.1)))
theorem vals_out : ∀ out : List (Addr × (Int × Int)), Vals (out.map fun q => V.ref q.1) (out.map fun q => Value.ref q.1)
  | [] => .nil
  | _ :: r => .cons rfl (vals_out r)
open PySem.W in
theorem cr_sortK {X : Cx} (hc : X.calm = true) (hu : X.A.units + 200 < cLine) : CallR X (.builtin "sorted") (rSortK X) := by
  intro pins s σ H xs us Q I r h
  obtain ⟨D, ents, ps, Gd, ex, hD, hs, hk, hq, hz, q⟩ := h
  subst ex
  obtain ⟨u, rfl, rx⟩ := vals1 r
  obtain rfl : u = Value.ref D := rx
  obtain ⟨rd, _, _⟩ := (show ObjOk X.prog X.w H s.heap D (.ext (RawD X.prog X.w D ents)) from I.hok D _ hD)
  obtain ⟨o, es, ep, ho, hx, hd, he, hn⟩ := rd
  have hes : es.size = ents.length := by
    have := congrArg List.length he
    rw [Array.length_toList, List.length_map] at this
    exact this
  have hel : ents.length = ps.length := by
    have := congrArg List.length hk
    rw [List.length_map, List.length_map] at this
    exact this
  refine Calls.call_function_entry PyProof.Rows.kind_sorted PyProof.Rows.plain_sorted PyProof.Rows.entry_sorted (PyProof.Rows.args_sorted1 _) ?_
  unfold Builtin.«sorted»
  refine wpAny_bind (m := checkCount "sorted" 1 1 _) (wpAny_pure ?_)
  refine wpAny_bind (PySem.W.kdu_collect (A := X.A.in1) (kdl_raw hs hx hd) (I.ok.hd hc) ho (by omega) fun h' tk acc kp it => ?_)
  have ea : acc.toList = ents.map fun e => Value.ref e.2.1 := by
    refine List.ext_getElem? fun j => ?_
    rw [List.getElem?_map]
    cases hj : acc.toList[j]? with
    | none =>
      have h1 := List.getElem?_eq_none_iff.mp hj
      rw [Array.length_toList, it.1] at h1
      rw [List.getElem?_eq_none (by omega)]
      rfl
    | some v =>
      obtain ⟨en, hen, hv⟩ := it.2 j v (by rw [← Array.getElem?_toList]; exact hj)
      rw [← Array.getElem?_toList, he, List.getElem?_map] at hen
      cases hb : ents[j]? with
      | none =>
        rw [hb] at hen
        cases hen
      | some b =>
        rw [hb] at hen
        rw [hv, ← Option.some.inj hen]
        rfl
  have I1 : L2.Inv X pins σ H { s with heap := h', toks := tk } := I.kept kp
  have al : acc.toList.length = ps.length := by rw [ea, List.length_map, hel]
  refine wpAny_bind (wpAny_newList ?_ (by rw [al]; omega))
  have hoL : (h'.push (seqObj "list" acc.toList.toArray 0)).get? h'.objs.size = some (seqObj "list" acc.toList.toArray 0) := Heap.get?_push_size _ rfl
  show wpAny _ _ _ _ _ { s with heap := h'.push (seqObj "list" acc.toList.toArray 0), toks := tk }
  have ep1 : EachIs (PtAt X.K H Gd) acc.toList ps := by rw [ea]; exact each_pts hk hq
  have I2 : L2.Inv X pins σ H { s with heap := h'.push (seqObj "list" acc.toList.toArray 0), toks := tk } := I1.kept (t' := tk) fun b o e => Heap.get?_push_of_some _ e
  refine wpAny_bind (wpAny_holding (list_sort_data (s := { s with heap := h'.push (seqObj "list" acc.toList.toArray 0), toks := tk }) (vs := acc.toList) (bs := ps) (enc := pE) (R := PtAt X.K H Gd) hoL ep1 (ep1.mono fun v b h => ⟨[], pt_reads I2 h, by simp⟩) (pts_alike ps) (Sortable.tuples fun b => ⟨.int b.1, [.int b.2], rfl⟩) (by omega) (fun b _ => ?_) fun out hol hout => ?_))
  · show X.A.units + 1 + 1 + 1 < cLine
    omega
  · obtain ⟨o2, h1, h2, h3⟩ := each_out hout
    obtain ⟨e', he'⟩ := PyProof.Rows.sortedHeap_at (vs := acc.toList) (out := out.toArray) hoL
    have hlen : (o2.map fun q => V.ref q.1).length ≤ sizeLine := by
      rw [List.length_map]
      have : o2.length = out.length := by rw [h2, List.length_map]
      omega
    refine wpAny_pure ⟨_, rfl, .ref h'.objs.size, upd H h'.objs.size (.lst (o2.map fun q => V.ref q.1)), I1.laid (t' := tk) (fun b u e => ?_) (Nat.le_refl _) ⟨hlen, out, e', by rw [h2]; exact vals_out o2, he'⟩, rfl, q _ o2 (I1.hok.fresh (Nat.le_refl _)) h1 h3⟩
    have hb : b < h'.objs.size := Heap.lt_size e
    rw [PyProof.Rows.sortedHeap_old (Nat.ne_of_lt hb) (by rw [size_push']; exact Nat.lt_succ_of_lt hb)]
    exact Heap.get?_push_of_some _ e
/-! ### what it comes to -/
theorem eqP_iff {p q : Int × Int} : eqP p q = true ↔ p = q := by
  obtain ⟨a, b⟩ := p
  obtain ⟨c, d⟩ := q
  simp [eqP]
theorem keyP_inj {p q : Int × Int} (h : keyP p = keyP q) : p = q := by
  obtain ⟨a, b⟩ := p
  obtain ⟨c, d⟩ := q
  simp [keyP] at h
  simp [h]
theorem atKey_some {xs : List Ent} {k : List Key} : (atKey xs k).isSome = true ↔ k ∈ xs.map (·.1) := by
  unfold atKey
  rw [Option.isSome_map, List.find?_isSome]
  simp
theorem stored_keys {acc : List Ent} {qs : List (Int × Int)} {p : Int × Int} {a : Addr} {v : Value} (h : acc.map (·.1) = qs.map keyP) : (storedH acc (keyP p) a v).map (·.1) = (cond (qs.any (eqP p)) qs (qs ++ [p])).map keyP := by
  have e : (atKey acc (keyP p)).isSome = qs.any (eqP p) := by
    rw [Bool.eq_iff_iff, atKey_some, h, List.any_eq_true, List.mem_map]
    constructor
    · rintro ⟨q, hq, e⟩
      exact ⟨q, hq, eqP_iff.mpr (keyP_inj e).symm⟩
    · rintro ⟨q, hq, e⟩
      exact ⟨q, hq, by rw [eqP_iff.mp e]⟩
  unfold storedH
  rw [e]
  cases qs.any (eqP p) with
  | true =>
    rw [if_pos rfl, List.map_map]
    show acc.map _ = qs.map keyP
    rw [← h]
    refine List.map_congr_left fun x _ => ?_
    show (putAt (keyP p) v x).1 = x.1
    unfold putAt
    split <;> rfl
  | false =>
    rw [if_neg (by simp), List.map_append, h]
    show _ = (qs ++ [p]).map keyP
    rw [List.map_append]
    rfl
theorem ents_keys : ∀ (ps : List (Int × Int)) (kbs : List (List Key × Addr)) (acc : List Ent) (qs : List (Int × Int)), kbs.map (·.1) = ps.map keyP → acc.map (·.1) = qs.map keyP →
    (kbs.foldl (fun acc p => storedH acc p.1 p.2 (.bool true)) acc).map (·.1) = (uniqG qs ps).map keyP
  | [], [], acc, qs, _, h => h
  | p :: ps, kb :: kbs, acc, qs, e, h => by
    have e1 : kb.1 = keyP p := (List.cons.inj e).1
    have e2 := (List.cons.inj e).2
    rw [List.foldl_cons]
    refine ents_keys ps kbs _ _ e2 ?_
    rw [e1]
    exact stored_keys h
  | [], _ :: _, _, _, e, _ => by cases e
  | _ :: _, [], _, _, e, _ => by cases e
/-! sorted: one way only -/
theorem leP_iff {p q : Int × Int} : leP p q = true ↔ p.1 < q.1 ∨ (p.1 = q.1 ∧ p.2 ≤ q.2) := by simp [leP]
theorem leP_total (p q : Int × Int) : leP p q = true ∨ leP q p = true := by
  rw [leP_iff, leP_iff]
  omega
theorem leP_trans {p q r : Int × Int} (h : leP p q = true) (k : leP q r = true) : leP p r = true := by
  rw [leP_iff] at *
  omega
theorem leP_anti {p q : Int × Int} (h : leP p q = true) (k : leP q p = true) : p = q := by
  rw [leP_iff] at *
  obtain ⟨a, b⟩ := p
  obtain ⟨c, d⟩ := q
  have h1 : a = c := by
    show (a, b).1 = (c, d).1
    omega
  have h2 : b = d := by
    show (a, b).2 = (c, d).2
    omega
  rw [h1, h2]
theorem ins_perm (p : Int × Int) : ∀ l, (insP p l).Perm (p :: l)
  | [] => .refl _
  | q :: r => by
    unfold insP
    cases leP p q with
    | true => exact .refl _
    | false => exact ((ins_perm p r).cons q).trans (.swap _ _ _)
theorem isort_perm : ∀ l, (isortP l).Perm l
  | [] => .refl _
  | p :: r => (ins_perm p _).trans ((isort_perm r).cons p)
theorem ins_sorted (p : Int × Int) : ∀ l, l.Pairwise (fun a b => leP a b = true) → (insP p l).Pairwise (fun a b => leP a b = true)
  | [], _ => List.pairwise_singleton _ _
  | q :: r, h => by
    obtain ⟨h1, h2⟩ := List.pairwise_cons.mp h
    unfold insP
    cases e : leP p q with
    | true =>
      refine List.pairwise_cons.mpr ⟨fun x hx => ?_, h⟩
      rcases List.mem_cons.mp hx with rfl | hx
      · exact e
      · exact leP_trans e (h1 x hx)
    | false =>
      refine List.pairwise_cons.mpr ⟨fun x hx => ?_, ins_sorted p r h2⟩
      have hx := (ins_perm p r).mem_iff.mp hx
      rcases List.mem_cons.mp hx with rfl | hx
      · rcases leP_total q x with z | z
        · exact z
        · rw [z] at e
          cases e
      · exact h1 x hx
theorem isort_sorted : ∀ l, (isortP l).Pairwise (fun a b => leP a b = true)
  | [] => List.Pairwise.nil
  | p :: r => ins_sorted p _ (isort_sorted r)
theorem one_sorted : ∀ {l m : List (Int × Int)}, l.Perm m → l.Pairwise (fun a b => leP a b = true) → m.Pairwise (fun a b => leP a b = true) → l = m
  | [], m, h, _, _ => by
    rw [List.Perm.nil_eq h]
  | a :: l, [], h, _, _ => by
    have := h.length_eq
    simp at this
  | a :: l, b :: m, h, h1, h2 => by
    obtain ⟨k1, k2⟩ := List.pairwise_cons.mp h1
    obtain ⟨k3, k4⟩ := List.pairwise_cons.mp h2
    have e : a = b := by
      have ha : a ∈ b :: m := h.mem_iff.mp List.mem_cons_self
      have hb : b ∈ a :: l := h.mem_iff.mpr List.mem_cons_self
      rcases List.mem_cons.mp ha with e | ha
      · exact e
      · rcases List.mem_cons.mp hb with e | hb
        · exact e.symm
        · exact leP_anti (k1 b hb) (k3 a ha)
    subst e
    rw [one_sorted ((List.perm_cons a).mp h) k2 k4]
theorem merge_eq (ps : List (Int × Int)) : ps.mergeSort (PySem.W.dataLe false pE) = isortP ps := by
  have e : PySem.W.dataLe false pE = leP := by
    have q := PySem.W.dataLe_ii (β := Int × Int) (fun b => b.1) (fun b => b.2)
    refine q.trans ?_
    funext p q
    simp [leP]
  rw [e]
  refine one_sorted ((List.mergeSort_perm _ _).trans (isort_perm ps).symm) ?_ (isort_sorted ps)
  exact List.pairwise_mergeSort (le := leP) (fun a b c h k => leP_trans h k) (fun a b => by
    rcases leP_total a b with h | h <;> simp [h]) ps
/-! ### the expression -/
section
variable {T : Tab} {X : Cx} {W : WX} {B : Bs} {pos : Pos}
theorem pts_at {K : PySem.W.Frag} {g : Gh} : ∀ {vs : List V} {xs : List Val} {ps : List (Int × Int)}, Reps K T g vs xs → ptsV xs = some ps → ∃ kbs : List (List Key × Addr), vs = kbs.map (fun p => V.ref p.2) ∧ kbs.map (·.1) = ps.map keyP ∧ ∀ p : List Key × Addr, p ∈ kbs → SqT K g.Z p.2 (p.1.map kV)
  | _, [], ps, .nil, e => by
    cases e
    exact ⟨[], rfl, rfl, fun _ z => by cases z⟩
  | _, x :: r, ps, .cons h t, e => by
    obtain ⟨p, e1, e2⟩ := Option.bind_eq_some_iff.mp (show (ptV x).bind (fun p => (ptsV r).map (p :: ·)) = some ps from e)
    obtain ⟨qs, e3, rfl⟩ := Option.map_eq_some_iff.mp e2
    obtain ⟨kbs, k1, k2, k3⟩ := pts_at t e3
    unfold ptV at e1
    split at e1
    · rename_i px py
      cases e1
      cases h with
      | p h =>
        cases h with
        | @tup a us _ q rr =>
          have eu : us = [.int px, .int py] := by
            cases rr with
            | cons r1 rr =>
              cases rr with
              | cons r2 rr =>
                cases rr
                cases r1
                cases r2
                rfl
          refine ⟨(keyP (px, py), a) :: kbs, by rw [List.map_cons, k1], by rw [List.map_cons, k2, List.map_cons], fun y hy => ?_⟩
          rcases List.mem_cons.mp hy with rfl | hy
          · show SqT K g.Z a [.int px, .int py]
            rw [← eu]
            exact q
          · exact k3 y hy
    · cases e1
theorem rds_out {K : PySem.W.Frag} {Z : Hp} : ∀ (out : List (Addr × (Int × Int))), (∀ q : Addr × (Int × Int), q ∈ out → SqT K Z q.1 [.int q.2.1, .int q.2.2]) → RDs K Z (out.map fun q => V.ref q.1) ((out.map (·.2)).map pE)
  | [], _ => .nil
  | q :: r, h => .cons (.tup (h q List.mem_cons_self) (.cons (.int _) (.cons (.int _) .nil))) (rds_out r fun x hx => h x (List.mem_cons_of_mem _ hx))
theorem ee_sortK {x : Str} {ps0 pt pk pv dpos : Pos} {j : Nat} {iter : Expr} {scope : Scope} {m : Sl → M Res} (hc : X.calm = true) (U : XU X) (he : EE T X W B iter m) (hsc : ownScope scope x = true) (hd : (x == ("__debug__" : Str)) = false) (hs : ∀ v, foldedSetIterable iter X.env v = pure v) (hg : Gl X "sorted") (hm : X.mg "sorted" = none) :
    EE T X W B (.Call (.Name "sorted" ps0) [.DictComp (.Name x pk) (.Constant (.bool true) j pv) [⟨.Name x pt, iter, [], 0⟩] scope dpos] [] pos) fun s => (m s).bind (sortKR true) := by
  refine ⟨fun pins s σ H Q I h => ?_⟩
  obtain ⟨g, sd, S, hw⟩ := h
  have un := U.un
  refine (pe_callB (cr_sortK hc un) hg hm (by rfl) (pa_cons (pe_dcK hc (by omega) he hsc hd hs) pa_nil)).run pins s σ H Q I ?_
  refine tE.step S hw fun v g1 H1 r st S1 R hk => ?_
  obtain ⟨ps, e, hk⟩ := wp_ofOpt hk
  obtain ⟨hz, hk⟩ := wp_guard hk
  obtain ⟨xs, e1, e2⟩ := Option.bind_eq_some_iff.mp e
  obtain ⟨a, vs, rfl, q, rr⟩ := R.its S1 e1
  obtain ⟨kbs, k1, k2, k3⟩ := pts_at rr e2
  rw [k1] at q
  have hk : PR X.K T B σ sd Q g H (.l true ((isortP (uniqP ps)).map pE)) := hk
  refine ⟨a, kbs, rfl, q, fun p hp => S1.sqT (k3 p hp), fun D hD hsm => ?_⟩
  have Su : Same H1 (upd H1 D (.ext (RawD X.prog X.w D (entsOf kbs)))) := Same.add hD
  have S2 := S1.lay (o := .ext (RawD X.prog X.w D (entsOf kbs))) hD fun _ z => by cases z
  have st2 : Step g1 H1 g1 (upd H1 D (.ext (RawD X.prog X.w D (entsOf kbs)))) := .lay hD
  have kl : kbs.length = ps.length := by
    have := congrArg List.length k2
    rw [List.length_map, List.length_map] at this
    exact this
  have ek := ents_keys ps kbs [] [] k2 rfl
  refine ⟨D, entsOf kbs, uniqP ps, fun b p => SqT X.K g1.Z b [.int p.1, .int p.2], rfl, upd_same, hsm, ek, fun y hy => ?_, ?_, fun p out np eo ho => ?_⟩
  · rcases ents_mem _ _ _ hy with ⟨z, hz, _⟩ | hm2
    · cases hz
    · have hz := k3 _ hm2
      refine ⟨Same.seqT Su (S1.sqT hz), fun p ep => ?_⟩
      have ep : y.1 = keyP p := ep
      have hz : SqT X.K g1.Z y.2.1 (y.1.map kV) := hz
      rw [ep] at hz
      exact hz
  · have q1 := ents_len kbs []
    have q2 : (entsOf kbs).length ≤ kbs.length := by simpa [entsOf] using q1
    rw [sizeLine_eq]
    have := of_decide_eq_true hz
    omega
  · rw [merge_eq] at eo
    have rd := rds_out (K := X.K) (Z := g1.Z) out ho
    rw [eo] at rd
    exact PR.newL (PR.weak hk (st.trans st2)) S2 np rd
end
end Rf

set_option Elab.async false
set_option linter.all false
set_option maxRecDepth 100000
set_option maxHeartbeats 4000000
/-! R8c: list(zip(t, u)), t and u tuples. -/
namespace Rf
open PySem PySem.Spec PyProof.Rows L2
section
variable {P : Program} {w : World} {A : Around} {E : Value → Shared → Prop} {s : Shared}
/-- the next pair while the last one is still out -/
theorem zipT_held {zp TI TO Tp j1 j2 l1 l2 : Addr} {f : Bool} {oT : Obj} {k1 k2 : Nat} {xs ys : Array Value} {x y : Value} {Q : Option Value → Shared → Prop} (D : ZipApart zp TI TO j1 j2 l1 l2) (hz : IsZipHeld s.heap zp TI TO Tp f) (hT : s.heap.get? Tp = some oT)
    (hp : IsPair s.heap TI (.ref j1) (.ref j2)) (h1 : s.heap.IsTupleIter j1 l1 k1) (h2 : s.heap.IsTupleIter j2 l2 k2) (q1 : s.heap.IsTuple l1 xs) (q2 : s.heap.IsTuple l2 ys) (hx : xs[k1]? = some x) (hy : ys[k2]? = some y)
    (hQ : ∀ h', IsZipHeld h' zp TI TO Tp true → h'.IsTupleIter j1 l1 (k1 + 1) → h'.IsTupleIter j2 l2 (k2 + 1) → IsPair h' s.heap.objs.size x y → (∀ c o, c ≠ zp → c ≠ j1 → c ≠ j2 → s.heap.get? c = some o → h'.get? c = some o) → Q (some (.ref s.heap.objs.size)) { s with heap := h' }) :
    wpAny (model P w) A (pyNext (.ref zp)) Q E s := by
  have ty : s.TypeIs (.ref zp) "zip" := ⟨_, hz, rfl⟩
  have body : ∀ (B : Around) (E1 : Value → Shared → Prop) (R : Value → Shared → Prop), (∀ h', IsZipHeld h' zp TI TO Tp true → h'.IsTupleIter j1 l1 (k1 + 1) → h'.IsTupleIter j2 l2 (k2 + 1) → IsPair h' s.heap.objs.size x y → (∀ c o, c ≠ zp → c ≠ j1 → c ≠ j2 → s.heap.get? c = some o → h'.get? c = some o) → R (.ref s.heap.objs.size) { s with heap := h' }) →
      wpAny (model P w) B (Builtin.«zip.__next__» ⟨[.ref zp], []⟩) (fun fin s' => ∃ v, fin = .done (.ret v) ∧ R v s') E1 s := by
    intro B E1 R hR
    show wpAny _ _ (field (.ref zp) 2 >>= _) _ _ _
    refine wpAny_bind (wpAny_field hz rfl (x := .bool false) rfl (wpAny_bind (wpAny_field hz rfl (x := .ref TI) rfl (wpAny_bind (wpAny_seqItems hp rfl ?_)))))
    refine wpAny_bind (wpAny_tupleHeld_zip hz hT fun g1 z1 b1 => ?_)
    simp only [Bool.false_eq_true, if_false]
    refine wpAny_bind ?_
    rw [← Array.forIn_toList]
    simp only [List.forIn_cons, List.forIn_nil]
    refine wpAny_bind (wpAny_bind (wpAny_holding (wpAny_bind (RZ.nextOf_tuple_item (s := { s with heap := g1 }) (h1.extBut b1.extBut D.i1z) (q1.extBut b1.extBut D.l1z) hx fun g2 i2 b2 => wpAny_pure (wpAny_pure ?_)))))
    refine wpAny_bind (wpAny_bind (wpAny_holding (wpAny_bind (RZ.nextOf_tuple_item (s := { s with heap := g2 }) ((h2.extBut b1.extBut D.i2z).extBut b2.extBut D.i12.symm) ((q2.extBut b1.extBut D.l2z).extBut b2.extBut D.l2i1) hy fun g3 i3 b3 => wpAny_pure (wpAny_pure (wpAny_pure ?_))))))
    refine wpAny_bind (m := newTuple [x, y]) (wpAny_newTuple ?_)
    have sz : g3.objs.size = s.heap.objs.size := by rw [b3.1, b2.1, b1.1]
    have z3 : IsZipHeld g3 zp TI TO Tp true := b3.extBut _ _ D.i2z.symm (b2.extBut _ _ D.i1z.symm z1)
    have kp : ∀ c o, c ≠ zp → c ≠ j1 → c ≠ j2 → s.heap.get? c = some o → g3.get? c = some o := fun c o c1 c2 c3 e => b3.extBut _ _ c3 (b2.extBut _ _ c2 (b1.extBut _ _ c1 e))
    have pr : IsPair (g3.push { cls := .type "tuple", data := .seq #[x, y] }) g3.objs.size x y := Heap.get?_push_size _ rfl
    refine wpAny_pure ⟨_, rfl, ?_⟩
    show R (.ref g3.objs.size) _
    rw [sz] at pr ⊢
    exact hR _ (Heap.get?_push_of_some _ z3) ((i2.extBut b3.extBut D.i12).at fun o e => Heap.get?_push_of_some _ e) (i3.at fun o e => Heap.get?_push_of_some _ e) pr fun c o c1 c2 c3 e => Heap.get?_push_of_some _ (kp c o c1 c2 c3 e)
  unfold pyNext
  refine wpAny_bind (wpAny_attempt (wpAny_callSpecial?_slot (name := Str.ofString "__next__") ty F.slot_zip_next (wpAny_call_entry F.slot_zip_next ty F.entry_zip_next (body _ _ _ fun h' a b c d e => wpAny_pure (hQ h' a b c d e)) (F.args_zip_next_1 _))))
/-- no more pairs, while the last one is still out -/
theorem zipT_held_end {zp TI TO Tp j1 j2 l1 l2 : Addr} {f : Bool} {oT : Obj} {k1 k2 : Nat} {xs ys : Array Value} {Q : Option Value → Shared → Prop} (hh : A.handled = none) (D : ZipApart zp TI TO j1 j2 l1 l2) (hz : IsZipHeld s.heap zp TI TO Tp f) (hT : s.heap.get? Tp = some oT)
    (hp : IsPair s.heap TI (.ref j1) (.ref j2)) (h1 : s.heap.IsTupleIter j1 l1 k1) (h2 : s.heap.IsTupleIter j2 l2 k2) (q1 : s.heap.IsTuple l1 xs) (q2 : s.heap.IsTuple l2 ys) (he : xs[k1]? = none ∨ ys[k2]? = none)
    (hQ : ∀ h', (∀ c o, c ≠ zp → c ≠ j1 → c ≠ j2 → s.heap.get? c = some o → h'.get? c = some o) → Q none { s with heap := h' }) :
    wpAny (model P w) A (pyNext (.ref zp)) Q E s := by
  have ty : s.TypeIs (.ref zp) "zip" := ⟨_, hz, rfl⟩
  have body : ∀ (B : Around) (R : Fin → Shared → Prop) (E1 : Value → Shared → Prop), B.handled = none → (∀ h' e, (∀ c o, c ≠ zp → c ≠ j1 → c ≠ j2 → s.heap.get? c = some o → h'.get? c = some o) → (∃ o, h'.get? e = some o ∧ o.cls = .type "StopIteration") → E1 (.ref e) { s with heap := h' }) →
      wpAny (model P w) B (Builtin.«zip.__next__» ⟨[.ref zp], []⟩) R E1 s := by
    intro B R E1 hB hE
    show wpAny _ _ (field (.ref zp) 2 >>= _) _ _ _
    refine wpAny_bind (wpAny_field hz rfl (x := .bool false) rfl (wpAny_bind (wpAny_field hz rfl (x := .ref TI) rfl (wpAny_bind (wpAny_seqItems hp rfl ?_)))))
    refine wpAny_bind (wpAny_tupleHeld_zip hz hT fun g1 z1 b1 => ?_)
    simp only [Bool.false_eq_true, if_false]
    refine wpAny_bind ?_
    rw [← Array.forIn_toList]
    simp only [List.forIn_cons, List.forIn_nil]
    refine wpAny_bind (wpAny_bind (wpAny_holding (wpAny_bind ?_)))
    cases ex : xs[k1]? with
    | none => exact RZ.nextOf_tuple_end (s := { s with heap := g1 }) hB (h1.extBut b1.extBut D.i1z) (q1.extBut b1.extBut D.l1z) ex fun g2 e b2 s2 => hE g2 e (fun c o c1 c2 _ u => b2 _ _ c2 (b1.extBut _ _ c1 u)) s2
    | some x =>
      have ey : ys[k2]? = none := he.resolve_left (by rw [ex]; exact fun z => by cases z)
      refine RZ.nextOf_tuple_item (s := { s with heap := g1 }) (h1.extBut b1.extBut D.i1z) (q1.extBut b1.extBut D.l1z) ex fun g2 i2 b2 => wpAny_pure (wpAny_pure ?_)
      refine wpAny_bind (wpAny_bind (wpAny_holding (wpAny_bind (RZ.nextOf_tuple_end (s := { s with heap := g2 }) hB ((h2.extBut b1.extBut D.i2z).extBut b2.extBut D.i12.symm) ((q2.extBut b1.extBut D.l2z).extBut b2.extBut D.l2i1) ey fun g3 e b3 s3 => ?_))))
      exact hE g3 e (fun c o c1 c2 c3 u => b3 _ _ c3 (b2.extBut _ _ c2 (b1.extBut _ _ c1 u))) s3
  unfold pyNext
  refine wpAny_bind (wpAny_attempt (wpAny_callSpecial?_slot (name := Str.ofString "__next__") ty F.slot_zip_next (wpAny_call_entry F.slot_zip_next ty F.entry_zip_next (body _ _ _ hh fun h' e k st => ?_) (F.args_zip_next_1 _))))
  obtain ⟨o, e1, e2⟩ := st
  exact wpAny_bind (wpAny_isInstance (T := "StopIteration") (b := true) ⟨o, e1, e2⟩ isSubtype_stop (wpAny_pure (hQ _ k)))
end
/-- a zip at zp that stands at i; S: the list that is being filled -/
structure ZpLow (S zp TI TO j1 j2 l1 l2 : Addr) : Prop where
  ap : ZipApart zp TI TO j1 j2 l1 l2
  z : zp < S
  i : TI < S
  o : TO < S
  a : j1 < S
  b : j2 < S
  c : l1 < S
  d : l2 < S
structure ZpAt (S zp TI TO j1 j2 l1 l2 : Addr) (xs ys : Array Value) (i : Nat) (h : Heap) : Prop where
  st : (IsZip h zp TI TO .none ∧ ∃ a b, IsPair h TO a b) ∨ ∃ Tp f oT, IsZipHeld h zp TI TO Tp f ∧ h.get? Tp = some oT ∧ S < Tp
  p : IsPair h TI (.ref j1) (.ref j2)
  h1 : h.IsTupleIter j1 l1 i
  h2 : h.IsTupleIter j2 l2 i
  q1 : h.IsTuple l1 xs
  q2 : h.IsTuple l2 ys
/-- the pairs that were made -/
structure Prs (xs ys : Array Value) (S : Addr) (h : Heap) (as : List Addr) : Prop where
  up : as.Pairwise (· < ·)
  hi : ∀ a ∈ as, S < a
  at_ : ∀ (j : Nat) (a : Addr), as[j]? = some a → ∃ x y, xs[j]? = some x ∧ ys[j]? = some y ∧ IsPair h a x y
section
variable {P : Program} {w : World} {A : Around} {E : Value → Shared → Prop} {s : Shared} {S zp TI TO j1 j2 l1 l2 : Addr} {xs ys : Array Value} {i : Nat} {h h' : Heap}
theorem ZpAt.stay (L : ZpLow S zp TI TO j1 j2 l1 l2) (Z : ZpAt S zp TI TO j1 j2 l1 l2 xs ys i h) (k : ∀ b o, b ≠ S → h.get? b = some o → h'.get? b = some o) : ZpAt S zp TI TO j1 j2 l1 l2 xs ys i h' where
  st := by
    rcases Z.st with ⟨a, u, v, b⟩ | ⟨Tp, f, oT, a, b, c⟩
    · exact .inl ⟨k _ _ (Nat.ne_of_lt L.z) a, u, v, k _ _ (Nat.ne_of_lt L.o) b⟩
    · exact .inr ⟨Tp, f, oT, k _ _ (Nat.ne_of_lt L.z) a, k _ _ (Nat.ne_of_gt c) b, c⟩
  p := k _ _ (Nat.ne_of_lt L.i) Z.p
  h1 := Z.h1.at fun o e => k _ o (Nat.ne_of_lt L.a) e
  h2 := Z.h2.at fun o e => k _ o (Nat.ne_of_lt L.b) e
  q1 := Z.q1.at fun o e => k _ o (Nat.ne_of_lt L.c) e
  q2 := Z.q2.at fun o e => k _ o (Nat.ne_of_lt L.d) e
theorem zp_item {x y : Value} {Q : Option Value → Shared → Prop} (L : ZpLow S zp TI TO j1 j2 l1 l2) (Z : ZpAt S zp TI TO j1 j2 l1 l2 xs ys i s.heap) (hS : S < s.heap.objs.size) (hx : xs[i]? = some x) (hy : ys[i]? = some y)
    (hQ : ∀ h', ZpAt S zp TI TO j1 j2 l1 l2 xs ys (i + 1) h' → IsPair h' s.heap.objs.size x y → (∀ c o, c ≠ zp → c ≠ TO → c ≠ j1 → c ≠ j2 → s.heap.get? c = some o → h'.get? c = some o) → Q (some (.ref s.heap.objs.size)) { s with heap := h' }) :
    wpAny (model P w) A (pyNext (.ref zp)) Q E s := by
  have D := L.ap
  rcases Z.st with ⟨a, u, v, b⟩ | ⟨Tp, f, oT, a, b, c⟩
  · refine RZ.pyNext_zipT_item D a Z.p b Z.h1 Z.h2 Z.q1 Z.q2 hx hy fun h' a1 _ a3 a4 a5 _ k => hQ h' ⟨.inr ⟨_, false, _, a1, a5, hS⟩, k _ _ D.TIz D.TITO D.TIi1 D.TIi2 Z.p, a3, a4, Z.q1.at fun o e => k _ o D.l1z D.l1TO D.l1i1 D.l1i2 e, Z.q2.at fun o e => k _ o D.l2z D.l2TO D.l2i1 D.l2i2 e⟩ a5 k
  · refine zipT_held D a b Z.p Z.h1 Z.h2 Z.q1 Z.q2 hx hy fun h' a1 a3 a4 a5 k => hQ h' ⟨.inr ⟨Tp, true, oT, a1, ?_, c⟩, k _ _ D.TIz D.TIi1 D.TIi2 Z.p, a3, a4, Z.q1.at fun o e => k _ o D.l1z D.l1i1 D.l1i2 e, Z.q2.at fun o e => k _ o D.l2z D.l2i1 D.l2i2 e⟩ a5 fun c o c1 _ c3 c4 e => k c o c1 c3 c4 e
    exact k _ _ (Nat.ne_of_gt (Nat.lt_trans L.z c)) (Nat.ne_of_gt (Nat.lt_trans L.a c)) (Nat.ne_of_gt (Nat.lt_trans L.b c)) b
theorem zp_end {Q : Option Value → Shared → Prop} (hh : A.handled = none) (L : ZpLow S zp TI TO j1 j2 l1 l2) (Z : ZpAt S zp TI TO j1 j2 l1 l2 xs ys i s.heap) (he : xs[i]? = none ∨ ys[i]? = none)
    (hQ : ∀ h', (∀ c o, c ≠ zp → c ≠ TO → c ≠ j1 → c ≠ j2 → s.heap.get? c = some o → h'.get? c = some o) → Q none { s with heap := h' }) : wpAny (model P w) A (pyNext (.ref zp)) Q E s := by
  have D := L.ap
  rcases Z.st with ⟨a, u, v, b⟩ | ⟨Tp, f, oT, a, b, c⟩
  · exact RZ.pyNext_zipT_end hh D a Z.p b Z.h1 Z.h2 Z.q1 Z.q2 he hQ
  · exact zipT_held_end hh D a b Z.p Z.h1 Z.h2 Z.q1 Z.q2 he fun h' k => hQ h' fun c o c1 _ c3 c4 e => k c o c1 c3 c4 e

theorem zp_loop (hh : A.handled = none) (L : ZpLow S zp TI TO j1 j2 l1 l2) (n : Nat) (hn : n = min xs.size ys.size) (hz : n ≤ sizeLine) (res : Value) {R : Result → Shared → Prop} {h0 : Heap}
    (hR : ∀ h' tk acc c as, (∀ b o, b < S → b ∉ [zp, TO, j1, j2] → h0.get? b = some o → h'.get? b = some o) → h'.get? S = some { cls := .type "list", dict := none, data := .seq acc c, slots := #[] } → as.length = n → Prs xs ys S h' as → acc.toList = as.map Value.ref → R (.ok (.ret res)) { s with heap := h', toks := tk }) :
    ∀ (m i : Nat) (h : Heap) (tk c : Nat) (acc : Array Value) (as : List Addr), n - i = m → i ≤ n → ZpAt S zp TI TO j1 j2 l1 l2 xs ys i h → (∀ b o, b < S → b ∉ [zp, TO, j1, j2] → h0.get? b = some o → h.get? b = some o) →
      h.get? S = some { cls := .type "list", dict := none, data := .seq acc c, slots := #[] } → acc.toList = as.map Value.ref → as.length = i → Prs xs ys S h as →
      codeAny (model P w) A (.builtin "list.extend.loop" ⟨[.ref S, .ref zp, res], []⟩) R { s with heap := h, toks := tk } := by
  have low : ∀ b, b < S → b ≠ S := fun b z => Nat.ne_of_lt z
  have hi : ∀ b, S < b → b ≠ zp ∧ b ≠ TO ∧ b ≠ j1 ∧ b ≠ j2 := fun b z => ⟨Nat.ne_of_gt (Nat.lt_trans L.z z), Nat.ne_of_gt (Nat.lt_trans L.o z), Nat.ne_of_gt (Nat.lt_trans L.a z), Nat.ne_of_gt (Nat.lt_trans L.b z)⟩
  intro m
  induction m with
  | zero =>
    intro i h tk c acc as e1 e2 Z kp hS ea el G
    have ei : i = n := by omega
    refine codeAny_builtin PySem.F.entry_extend_loop ?_
    rw [Around.under_plainId PySem.F.plain_extend_loop _]
    show wpAny _ A.in1 (pyNext (.ref zp) >>= _) _ _ _
    have ed : xs[i]? = none ∨ ys[i]? = none := by
      rcases Nat.le_total xs.size ys.size with z | z
      · exact .inl (Array.getElem?_eq_none (by omega))
      · exact .inr (Array.getElem?_eq_none (by omega))
    refine wpAny_bind (zp_end (s := { s with heap := h, toks := tk }) (A := A.in1) hh L Z ed fun g k => wpAny_pure (hR g tk acc c as (fun b o b1 b2 u => ?_) (k _ _ (Nat.ne_of_gt L.z) (Nat.ne_of_gt L.o) (Nat.ne_of_gt L.a) (Nat.ne_of_gt L.b) hS) (by omega) ⟨G.up, G.hi, fun j a hj => ?_⟩ ea))
    · simp only [List.mem_cons, List.not_mem_nil, or_false, not_or] at b2
      exact k b o b2.1 b2.2.1 b2.2.2.1 b2.2.2.2 (kp b o b1 (by simp [b2]) u)
    · obtain ⟨x, y, x1, x2, x3⟩ := G.at_ j a hj
      obtain ⟨z1, z2, z3, z4⟩ := hi a (G.hi a (List.mem_of_getElem? hj))
      exact ⟨x, y, x1, x2, k _ _ z1 z2 z3 z4 x3⟩
  | succ m ih =>
    intro i h tk c acc as e1 e2 Z kp hS ea el G
    have lt : i < n := by omega
    have i1 : i < xs.size := by omega
    have i2 : i < ys.size := by omega
    have sz : acc.size = i := by rw [← Array.length_toList, ea, List.length_map, el]
    refine codeAny_builtin PySem.F.entry_extend_loop ?_
    rw [Around.under_plainId PySem.F.plain_extend_loop _]
    show wpAny _ A.in1 (pyNext (.ref zp) >>= _) _ _ _
    have hSl : S < h.objs.size := Heap.lt_size hS
    refine wpAny_bind (zp_item (s := { s with heap := h, toks := tk }) (x := xs[i]) (y := ys[i]) L Z hSl (Array.getElem?_eq_getElem i1) (Array.getElem?_eq_getElem i2) fun g Z2 pr k => ?_)
    dsimp only at pr k ⊢
    have hS2 := k _ _ (Nat.ne_of_gt L.z) (Nat.ne_of_gt L.o) (Nat.ne_of_gt L.a) (Nat.ne_of_gt L.b) hS
    have up : ∀ b o, b ≠ S → g.get? b = some o → (g.update S (Obj.mapSeq (·.push (Value.ref h.objs.size)))).get? b = some o := fun b o nb u => (Heap.get?_update_other _ _ (Ne.symm nb)).trans u
    show wpAny _ A.in1 (updateSeq S (·.push (Value.ref h.objs.size)) >>= _) _ _ _
    refine wpAny_bind ?_
    refine wpAny_updateSeq hS2 rfl (wpAny_pure ⟨plainId_quiet PySem.F.plain_extend_loop _, ih (i + 1) _ tk _ (acc.push (Value.ref h.objs.size)) (as ++ [h.objs.size]) (by omega) lt (Z2.stay L up) (fun b o b1 b2 u => up b o (low b b1) ?_) (Heap.get?_update_self _ hS2 rfl)
      (by rw [Array.toList_push, ea, List.map_append]; rfl) (by rw [List.length_append, el]; rfl) ⟨?_, ?_, ?_⟩⟩) (by rw [sz]; omega) (by show (acc.push (Value.ref h.objs.size)).size ≤ sizeLine + 1; rw [Array.size_push, sz]; omega)
    · simp only [List.mem_cons, List.not_mem_nil, or_false, not_or] at b2
      exact k b o b2.1 b2.2.1 b2.2.2.1 b2.2.2.2 (kp b o b1 (by simp [b2]) u)
    · rw [List.pairwise_append]
      refine ⟨G.up, List.pairwise_singleton _ _, fun a ha b hb => ?_⟩
      obtain rfl := List.mem_singleton.mp hb
      obtain ⟨j, hj⟩ := List.mem_iff_getElem?.mp ha
      obtain ⟨_, _, _, _, x3⟩ := G.at_ j a hj
      exact Heap.lt_size x3
    · intro a ha
      rcases List.mem_append.mp ha with ha | ha
      · exact G.hi a ha
      · obtain rfl := List.mem_singleton.mp ha
        exact hSl
    · intro j b hj
      by_cases q : j < as.length
      · rw [List.getElem?_append_left q] at hj
        obtain ⟨x, y, x1, x2, x3⟩ := G.at_ j b hj
        have hb := G.hi b (List.mem_of_getElem? hj)
        obtain ⟨z1, z2, z3, z4⟩ := hi b hb
        exact ⟨x, y, x1, x2, up b _ (Nat.ne_of_gt hb) (k _ _ z1 z2 z3 z4 x3)⟩
      · rw [List.getElem?_append_right (by omega)] at hj
        have ej : j = as.length := by
          have := (List.getElem?_eq_some_iff.mp hj).1
          rw [List.length_singleton] at this
          omega
        subst ej
        rw [Nat.sub_self] at hj
        obtain rfl := Option.some.inj hj
        exact ⟨xs[i], ys[i], by rw [el]; exact Array.getElem?_eq_getElem i1, by rw [el]; exact Array.getElem?_eq_getElem i2, up _ _ (Nat.ne_of_gt hSl) pr⟩
theorem zp_extend (hh : A.handled = none) (L : ZpLow S zp TI TO j1 j2 l1 l2) (hz : min xs.size ys.size ≤ sizeLine) (res : Value) {R : Result → Shared → Prop} {c0 : Nat} (Z : ZpAt S zp TI TO j1 j2 l1 l2 xs ys 0 s.heap) (Zf : IsZip s.heap zp TI TO .none) (hS : s.heap.get? S = some { cls := .type "list", data := .seq #[] c0 })
    (hR : ∀ h' tk acc c as, (∀ b o, b < S → b ∉ [zp, TO, j1, j2] → s.heap.get? b = some o → h'.get? b = some o) → h'.get? S = some { cls := .type "list", dict := none, data := .seq acc c, slots := #[] } → as.length = min xs.size ys.size → Prs xs ys S h' as → acc.toList = as.map Value.ref → R (.ok (.ret res)) { s with heap := h', toks := tk }) :
    wpAny (model P w) A.in1 (Builtin.List.listExtendWith (.ref S) (.ref zp) res)
      (fun fin s' => match fin with | .done f => R (.ok f) s' | .again c' => c'.quiet = true ∧ codeAny (model P w) A c' R s') (fun e s' => R (.error e) s') s := by
  have ty : s.TypeIs (.ref zp) "zip" := ⟨_, Zf, rfl⟩
  unfold Builtin.List.listExtendWith
  refine wpAny_bind (wpAny_typeOf (T := "zip") ty ?_)
  have n1 : Builtin.List.listSameRef (.ref S) (.ref zp) = false := by simp [Builtin.List.listSameRef, Nat.ne_of_gt L.z]
  have n2 : (Value.type "zip" == Value.type "list") = false := by decide
  have n3 : (Value.type "zip" == Value.type "tuple") = false := by decide
  simp only [n1, n2, n3, Bool.or_false, Bool.false_eq_true, if_false]
  refine wpAny_bind (wpAny_pyIter_zip Zf (wpAny_bind (wpAny_holding ?_)))
  unfold Builtin.List.listLengthHint
  refine wpAny_bind (wpAny_specialOf ty (show typeLookup (.type "zip") "__len__" = pure none from am_miss_of_fast (by decide +kernel)) ?_)
  show wpAny _ A.in1 (specialOf (Value.ref zp) (Str.ofString "__length_hint__") >>= _) _ _ _
  refine wpAny_bind (wpAny_specialOf ty (show typeLookup (.type "zip") "__length_hint__" = pure none from am_miss_of_fast (by decide +kernel)) (wpAny_pure ?_))
  show wpAny _ A.in1 (rule "list.extend.makes-room" >>= fun _ => Builtin.List.listTouch (.ref S) >>= fun _ => again (.builtin "list.extend.loop" ⟨[.ref S, .ref zp, res], []⟩)) _ _ _
  refine wpAny_bind (wpAny_rule (wpAny_bind ?_))
  show wpAny _ _ (updateSeq S (·.push .none) >>= fun _ => updateSeq S (·.pop)) _ _ _
  refine wpAny_bind (wpAny_updateSeq hS rfl ?_)
  have hS2 := Heap.get?_update_self (Obj.mapSeq (·.push Value.none)) hS rfl
  refine wpAny_updateSeq (hz := by seq_fits) hS2 rfl ?_
  have hS3 := Heap.get?_update_self (Obj.mapSeq (·.pop)) hS2 rfl
  have oth : ∀ b o, b ≠ S → s.heap.get? b = some o → ((s.heap.update S (Obj.mapSeq (·.push Value.none))).update S (Obj.mapSeq (·.pop))).get? b = some o := fun b o nb u => (Heap.get?_update_other _ _ (Ne.symm nb)).trans ((Heap.get?_update_other _ _ (Ne.symm nb)).trans u)
  exact wpAny_pure ⟨plainId_quiet PySem.F.plain_extend_loop _, zp_loop (s := s) (h0 := s.heap) hh L _ rfl hz res hR _ 0 _ _ _ #[] [] rfl (Nat.zero_le _) (Z.stay L oth) (fun b o b1 _ u => oth b o (Nat.ne_of_lt b1) u) hS3 rfl rfl ⟨List.Pairwise.nil, (fun _ z => nomatch z), fun j a z => by simp at z⟩⟩
end
section
variable {P : Program} {w : World} {A : Around} {E : Value → Shared → Prop} {s : Shared} {zp TI TO j1 j2 l1 l2 : Addr} {xs ys : Array Value}
theorem zp_call {Q : Value → Shared → Prop} (hh : A.handled = none) (L : ZpLow s.heap.objs.size zp TI TO j1 j2 l1 l2) (hz : min xs.size ys.size ≤ sizeLine) (Z : ZpAt s.heap.objs.size zp TI TO j1 j2 l1 l2 xs ys 0 s.heap) (Zf : IsZip s.heap zp TI TO .none)
    (hQ : ∀ h' tk acc c as, (∀ b o, b ∉ [zp, TO, j1, j2] → s.heap.get? b = some o → h'.get? b = some o) → h'.get? s.heap.objs.size = some { cls := .type "list", dict := none, data := .seq acc c, slots := #[] } → as.length = min xs.size ys.size → Prs xs ys s.heap.objs.size h' as → acc.toList = as.map Value.ref → Q (.ref s.heap.objs.size) { s with heap := h', toks := tk }) :
    wpAny (model P w) A (call (.type "list") [.ref zp]) Q E s := by
  refine callType_codes (Q₁ := fun obj s1 => obj = .ref s.heap.objs.size ∧ s1 = { s with heap := s.heap.push { cls := .type "list", data := .seq #[] } }) PySem.F.called_list (PySem.F.typeCall_list_1 _) PySem.F.entry_list_init (code_list_new _ ⟨rfl, rfl⟩) fun obj s1 q => ?_
  obtain ⟨rfl, rfl⟩ := q
  have hS : (s.heap.push { cls := .type "list", data := .seq #[] }).get? s.heap.objs.size = some { cls := .type "list", data := .seq #[] } := Heap.get?_push_size _ rfl
  refine ⟨⟨_, hS, rfl⟩, PySem.F.args_list_init_2 _ _, ?_⟩
  show wpAny _ _ (do let old ← Builtin.List.listItems (.ref s.heap.objs.size); Builtin.List.listUpdate (.ref s.heap.objs.size) (fun _ => #[]); letGo old.toList.reverse; Builtin.List.listExtendWith (.ref s.heap.objs.size) (.ref zp) .none) _ _ _
  refine wpAny_bind ?_
  unfold Builtin.List.listItems
  refine wpAny_bind (wpAny_seqItems hS rfl (wpAny_pure ?_))
  show wpAny _ _ (updateSeq s.heap.objs.size (fun _ => #[]) >>= fun _ => letGo (#[] : Array Value).toList.reverse >>= fun _ => Builtin.List.listExtendWith (.ref s.heap.objs.size) (.ref zp) .none) _ _ _
  refine wpAny_bind (wpAny_updateSeq hS rfl ?_)
  have hS2 := Heap.get?_update_self (Obj.mapSeq (fun _ => (#[] : Array Value))) hS rfl
  have oth : ∀ b o, b ≠ s.heap.objs.size → s.heap.get? b = some o → ((s.heap.push { cls := .type "list", data := .seq #[] }).update s.heap.objs.size (Obj.mapSeq (fun _ => (#[] : Array Value)))).get? b = some o := fun b o nb u => (Heap.get?_update_other _ _ (Ne.symm nb)).trans (Heap.get?_push_of_some _ u)
  refine wpAny_bind (wpAny_letGo ?_)
  refine zp_extend (A := A.in1) (s := { s with heap := _ }) hh L hz .none (Z.stay L oth) (oth _ _ (Nat.ne_of_lt L.z) Zf) hS2 fun h' tk acc c as k e1 e2 e3 e4 => ?_
  exact ⟨rfl, hQ h' tk acc c as (fun b o nb u => k b o (Heap.lt_size u) nb (oth b o (Nat.ne_of_lt (Heap.lt_size u)) u)) e1 e2 e3 e4⟩
end
/-! ### the rule -/
def layP : Hp → List (Addr × V × V) → Hp
  | H, [] => H
  | H, z :: r => layP (upd H z.1 (.tup [z.2.1, z.2.2])) r
def tLzip (K : PySem.W.Frag) (ta : TA) : TE := fun σ H Q => ta σ H fun vs H1 => ∃ a b xs ys, vs = [.ref a, .ref b] ∧ SqT K H1 a xs ∧ SqT K H1 b ys ∧
  ∀ (zs : List (Addr × V × V)) p, zs.map (·.2) = xs.zip ys → (zs.map (·.1)).Nodup → (∀ z ∈ zs, H1 z.1 = none ∧ z.1 ≠ p) → H1 p = none → Q (.ref p) (upd (layP H1 zs) p (.lst (zs.map fun z => V.ref z.1)))
section
variable {X : Cx} {pins : List (Addr × Obj)} {σ : L2.St} {H : Hp} {s : Shared}
theorem layP_free {p : Addr} : ∀ (zs : List (Addr × V × V)) (H : Hp), H p = none → (∀ z ∈ zs, z.1 ≠ p) → layP H zs p = none
  | [], _, h, _ => h
  | z :: r, H, h, n => layP_free r _ (by rw [upd_ne (Ne.symm (n z List.mem_cons_self))]; exact h) fun y hy => n y (List.mem_cons_of_mem _ hy)
theorem layP_inv {h' : Heap} {tk : Nat} (I0 : L2.Inv X pins σ H s) : ∀ (zs : List (Addr × V × V)) (H1 : Hp), L2.Inv X pins σ H1 { s with heap := h', toks := tk } → (zs.map (·.1)).Nodup →
    (∀ z ∈ zs, s.heap.objs.size ≤ z.1 ∧ H1 z.1 = none ∧ ∃ u v, RelV z.2.1 u ∧ RelV z.2.2 v ∧ IsPair h' z.1 u v) → L2.Inv X pins σ (layP H1 zs) { s with heap := h', toks := tk }
  | [], _, I, _, _ => I
  | z :: r, H1, I, n, q => by
    obtain ⟨q1, q2, u, v, r1, r2, r3⟩ := q z List.mem_cons_self
    rw [List.map_cons, List.nodup_cons] at n
    refine layP_inv I0 r _ (I.take (h' := h') (t' := tk) (fun b ob _ e => e) (I0.fpOk q1 q2) ⟨by rw [sizeLine_eq]; show 2 ≤ 16777216; omega, [u, v], .cons r1 (.cons r2 .nil), ⟨_, r3, rfl, 0, rfl⟩⟩) n.2 fun y hy => ?_
    obtain ⟨y1, y2, y3⟩ := q y (List.mem_cons_of_mem _ hy)
    refine ⟨y1, ?_, y3⟩
    rw [upd_ne fun e => n.1 (by rw [← e]; exact List.mem_map_of_mem hy)]
    exact y2
theorem pe_lzip {e e2 : Expr} {ta : TA} {p1 p2 pos pos2 : Pos} (hc : X.calm = true) (gl : Gl X "list") (ml : X.mg "list" = none) (gz : Gl X "zip") (mz : X.mg "zip" = none) (ha : PA X [e, e2] ta) (n1 : noStar e = true) (n2 : noStar e2 = true) :
    PE X (.Call (.Name "list" p1) [.Call (.Name "zip" p2) [e, e2] [] pos2] [] pos) (tLzip X.K ta) := by
  refine ⟨fun pins s σ H Q I h => ?_⟩
  refine Call_ (ld_blt I gl ml PyProof.Rows.boot_list (PyProof.Rows.callWith_type1 ?_))
  show wpAny _ _ (spliced [(false, eval (.Call (.Name "zip" p2) [e, e2] [] pos2) X.env)]) _ _ s
  refine Calls.spliced_cons (Call_ (ld_blt I gz mz PyProof.Rows.boot_zip (PyProof.Rows.callWith_type1 (thn (ha.run pos2 pins s σ H _ I h) fun us s1 q => ?_) (star_ok n1) (by rw [star_ok n2]; rfl))))
  obtain ⟨vs, H1, I1, r, a, b, xs, ys, ex, qa, qb, q⟩ := q
  subst ex
  obtain ⟨u, u2, rfl, ra, rb⟩ := vals2 r
  obtain rfl : u = Value.ref a := ra
  obtain rfl : u2 = Value.ref b := rb
  obtain ⟨is, rv, pa, za⟩ := I1.tuple qa
  obtain ⟨js, rw', pb, zb⟩ := I1.tuple qb
  have pa' : s1.heap.IsTuple a is.toArray := pa
  have pb' : s1.heap.IsTuple b js.toArray := pb
  refine RZ.call_zipT pa' pb' fun h' hz hTI hTO h1 h2 hsz hk => Calls.spliced_nil ?_
  have D := PySem.W.ktu_apart s1.heap.objs.size a b pa.lt pb.lt
  have LB : ∀ k, k < 5 → s1.heap.objs.size + k < h'.objs.size := fun k hk' => by rw [hsz]; exact Nat.add_lt_add_left hk' _
  have L : ZpLow h'.objs.size (s1.heap.objs.size + 4) (s1.heap.objs.size + 2) (s1.heap.objs.size + 3) s1.heap.objs.size (s1.heap.objs.size + 1) a b := ⟨D, LB 4 (by decide), LB 2 (by decide), LB 3 (by decide), LB 0 (by decide), LB 1 (by decide), Nat.lt_trans pa.lt (LB 0 (by decide)), Nat.lt_trans pb.lt (LB 0 (by decide))⟩
  have la := rv.length
  have lb := rw'.length
  have mz' : min is.toArray.size js.toArray.size = (xs.zip ys).length := by
    rw [List.length_zip, List.size_toArray, List.size_toArray]
    omega
  refine zp_call (s := { s1 with heap := h' }) (I1.ok.hd hc) L (by rw [mz', List.length_zip]; omega) ⟨.inl ⟨hz, _, _, hTO⟩, hTI, h1, h2, pa'.at fun o e => hk _ o e, pb'.at fun o e => hk _ o e⟩ hz fun h3 tk acc c as k e1 e2' G e4 => ?_
  have I2 : L2.Inv X pins σ H1 { s1 with heap := h' } := I1.kept (t' := s1.toks) hk
  have fr : ∀ c, s1.heap.objs.size ≤ c → FpOk X pins H1 c := fun c z => I1.fpOk z (I1.hok.fresh z)
  have I3 : L2.Inv X pins σ H1 { s1 with heap := h3, toks := tk } := I2.turnedL (s := { s1 with heap := h' }) (t' := tk) (ch := [s1.heap.objs.size + 4, s1.heap.objs.size + 3, s1.heap.objs.size, s1.heap.objs.size + 1]) (fun b o nb u => k b o nb u) fun b hb => by
    have z : s1.heap.objs.size ≤ b := by
      simp only [List.mem_cons, List.not_mem_nil, or_false] at hb
      rcases hb with e | e | e | e
      · rw [e]
        exact Nat.le_add_right _ _
      · rw [e]
        exact Nat.le_add_right _ _
      · rw [e]
        exact Nat.le_refl _
      · rw [e]
        exact Nat.le_add_right _ _
    exact fr b z
  have lz : as.length = (xs.zip ys).length := by rw [e2', mz']
  have m1 : (as.zip (xs.zip ys)).map (·.1) = as := List.map_fst_zip (by omega)
  have m2 : (as.zip (xs.zip ys)).map (·.2) = xs.zip ys := List.map_snd_zip (by omega)
  have hiA : ∀ x ∈ as, h'.objs.size < x := G.hi
  have big : ∀ x, h'.objs.size ≤ x → s1.heap.objs.size ≤ x := fun x z => by omega
  have nd : as.Nodup := List.Pairwise.imp (fun z => Nat.ne_of_lt z) G.up
  have each : ∀ z ∈ as.zip (xs.zip ys), z.1 ∈ as ∧ ∃ u v, RelV z.2.1 u ∧ RelV z.2.2 v ∧ IsPair h3 z.1 u v := by
    intro z hz'
    obtain ⟨j, hj⟩ := List.mem_iff_getElem?.mp hz'
    obtain ⟨j1, j2⟩ := List.getElem?_zip_eq_some.mp hj
    obtain ⟨j3, j4⟩ := List.getElem?_zip_eq_some.mp j2
    obtain ⟨u, v, u1, v1, pr⟩ := G.at_ j z.1 j1
    refine ⟨List.mem_of_getElem? j1, u, v, ?_, ?_, pr⟩
    · obtain ⟨u', k1, k2⟩ := rv.get j3
      have : is[j]? = some u := by simpa using u1
      rw [this] at k1
      obtain rfl := Option.some.inj k1
      exact k2
    · obtain ⟨v', k1, k2⟩ := rw'.get j4
      have : js[j]? = some v := by simpa using v1
      rw [this] at k1
      obtain rfl := Option.some.inj k1
      exact k2
  have I4 := layP_inv (h' := h3) (tk := tk) I1 (as.zip (xs.zip ys)) H1 I3 (by rw [m1]; exact nd) fun z hz' => by
    obtain ⟨z1, z2⟩ := each z hz'
    have q1 := big z.1 (Nat.le_of_lt (hiA _ z1))
    exact ⟨q1, I1.hok.fresh q1, z2⟩
  have pf : H1 h'.objs.size = none := I1.hok.fresh (big _ (Nat.le_refl _))
  have nz : ∀ z ∈ as.zip (xs.zip ys), H1 z.1 = none ∧ z.1 ≠ h'.objs.size := fun z hz' => by
    obtain ⟨z1, _⟩ := each z hz'
    exact ⟨I1.hok.fresh (big z.1 (Nat.le_of_lt (hiA _ z1))), Nat.ne_of_gt (hiA _ z1)⟩
  have e5 : ((as.zip (xs.zip ys)).map fun z => Value.ref z.1) = acc.toList := by
    rw [e4]
    have := congrArg (List.map Value.ref) m1
    rw [List.map_map] at this
    exact this
  have I5 : L2.Inv X pins σ (upd (layP H1 (as.zip (xs.zip ys))) h'.objs.size (.lst ((as.zip (xs.zip ys)).map fun z => V.ref z.1))) { s1 with heap := h3, toks := tk } := by
    refine I4.take (h' := h3) (t' := tk) (fun b ob _ e => e) (I1.fpOk (big _ (Nat.le_refl _)) (layP_free _ _ pf fun z hz' => (nz z hz').2)) ⟨?_, acc.toList, c, ?_, ?_⟩
    · rw [List.length_map, List.length_zip, List.length_zip]
      omega
    · rw [← e5]
      exact vals_maps (fun z : Addr × V × V => V.ref z.1) (fun z => Value.ref z.1) _ fun _ _ => rfl
    · rw [Array.toArray_toList]
      exact e1
  exact ⟨.ref h'.objs.size, _, I5, rfl, q _ _ m2 (by rw [m1]; exact nd) nz pf⟩
end
/-! ### the expression -/
section
variable {K : PySem.W.Frag} {T : Tab} {B : Bs} {σ : L2.St} {sd : Sl}
theorem rds_zip {Z : Hp} : ∀ {xs ys : List V} {as bs : List PyData}, RDs K Z xs as → RDs K Z ys bs → RDs K Z ((xs.zip ys).map (·.1)) ((as.zip bs).map (·.1)) ∧ RDs K Z ((xs.zip ys).map (·.2)) ((as.zip bs).map (·.2))
  | _, _, _, _, .nil, _ => by
    simp only [List.zip_nil_left]
    exact ⟨.nil, .nil⟩
  | _, _, _, _, .cons _ _, .nil => by
    simp only [List.zip_nil_right]
    exact ⟨.nil, .nil⟩
  | _, _, _, _, .cons h r, .cons h' r' => ⟨.cons h (rds_zip r r').1, .cons h' (rds_zip r r').2⟩
theorem layP_sr : ∀ (zs : List (Addr × V × V)) (ds : List (PyData × PyData)) (g : Gh) (H : Hp), SR K T B g H σ sd → (zs.map (·.1)).Nodup → (∀ z ∈ zs, H z.1 = none) → RDs K g.Z (zs.map (·.2.1)) (ds.map (·.1)) → RDs K g.Z (zs.map (·.2.2)) (ds.map (·.2)) →
    ∃ g', Step g H g' (layP H zs) ∧ SR K T B g' (layP H zs) σ sd ∧ RDs K g'.Z (zs.map fun z => V.ref z.1) (ds.map fun d => PyData.tuple [d.1, d.2])
  | [], [], g, H, S, _, _, _, _ => ⟨g, .refl, S, .nil⟩
  | z :: zs, d :: ds, g, H, S, n, f, r1, r2 => by
    rw [List.map_cons, List.nodup_cons] at n
    have fz := f z List.mem_cons_self
    cases r1 with
    | cons a r1 =>
      cases r2 with
      | cons b r2 =>
        have up : Same g.Z (g.add z.1 (.tup [z.2.1, z.2.2])).Z := Same.add (S.good.zfree fz)
        obtain ⟨g', st, S', rr⟩ := layP_sr zs ds (g.add z.1 (.tup [z.2.1, z.2.2])) (upd H z.1 (.tup [z.2.1, z.2.2])) (S.new fz fun ps y => by cases y) n.2 (fun y hy => by
          rw [upd_ne fun e => n.1 (by rw [← e]; exact List.mem_map_of_mem hy)]
          exact f y (List.mem_cons_of_mem _ hy)) (r1.mono up) (r2.mono up)
        refine ⟨g', (Step.new S.good fz).trans st, S', .cons ?_ rr⟩
        exact RD.mono st.z (.tup (.inl (.inl upd_same)) (.cons (a.mono up) (.cons (b.mono up) .nil)))
  | [], _ :: _, _, _, _, _, _, r, _ => by cases r
  | _ :: _, [], _, _, _, _, _, r, _ => by cases r
end
section
variable {T : Tab} {X : Cx} {W : WX} {B : Bs} {pos : Pos}
theorem lzipR_inv {x y : Res} {Q : Res → Prop} {E : Nat → Option PyData → Prop} (h : (lzipR x y).wp Q E) : ∃ as bs, x = .v (.p (.tuple as)) ∧ y = .v (.p (.tuple bs)) ∧ Q (.l true ((as.zip bs).map fun d => .tuple [d.1, d.2])) := by
  unfold lzipR at h
  split at h
  · exact ⟨_, _, rfl, rfl, h⟩
  · exact False.elim h
theorem ee_lzip {e e2 : Expr} {p1 p2 pos2 : Pos} {m m2 : Sl → M Res} (hc : X.calm = true) (gl : Gl X "list") (ml : X.mg "list" = none) (gz : Gl X "zip") (mz : X.mg "zip" = none) (h1 : EE T X W B e m) (h2 : EE T X W B e2 m2) (hn : noStar e = true) (hn2 : noStar e2 = true) :
    EE T X W B (.Call (.Name "list" p1) [.Call (.Name "zip" p2) [e, e2] [] pos2] [] pos) fun s => (m s).bind fun r => (m2 s).bind fun r' => lzipR r r' := by
  refine ⟨fun pins s σ H Q I h => ?_⟩
  obtain ⟨g, sd, S, hw⟩ := h
  refine (pe_lzip hc gl ml gz mz (pa_cons h1 (pa_cons h2 pa_nil (star_ok hn2)) (star_ok hn)) hn hn2).run pins s σ H Q I ?_
  refine tE.step S hw fun v g1 H1 x st S1 Rx hk => ?_
  refine tE.step S1 (wkX hk st) fun u g2 H2 y st2 S2 Ry hk2 => ?_
  have Rx := Rx.step st2
  have st := st.trans st2
  obtain ⟨as, bs, ex, ey, hk2⟩ := lzipR_inv hk2
  subst ex
  subst ey
  obtain ⟨a, vs, rfl, q1, r1⟩ := Rx.tupD
  obtain ⟨b, us, rfl, q2, r2⟩ := Ry.tupD
  refine ⟨a, b, vs, us, rfl, S2.sqT q1, S2.sqT q2, fun zs p ez nd fr np => ?_⟩
  obtain ⟨k1, k2⟩ := rds_zip r1 r2
  rw [← ez, List.map_map] at k1 k2
  obtain ⟨g3, st3, S3, rr⟩ := layP_sr zs (as.zip bs) g2 H2 S2 nd (fun z hz => (fr z hz).1) k1 k2
  exact PR.newL (PR.weak hk2 (st.trans st3)) S3 (layP_free zs H2 np fun z hz => (fr z hz).2) rr
end
end Rf

set_option Elab.async false
set_option linter.all false
set_option maxRecDepth 100000
set_option maxHeartbeats 4000000
/-! R8d: sorted(xs), xs a list of tuples of ints. -/
namespace Rf
open PySem PySem.Spec PyProof.Rows L2
/-! ### sorted, by any order -/
section
variable {α : Type} {le : α → α → Bool}
theorem insG_perm (p : α) : ∀ l, (insG le p l).Perm (p :: l)
  | [] => .refl _
  | q :: r => by
    unfold insG
    cases le p q with
    | true => exact .refl _
    | false => exact ((insG_perm p r).cons q).trans (.swap _ _ _)
theorem isortG_perm : ∀ l, (isortG le l).Perm l
  | [] => .refl _
  | p :: r => (insG_perm p _).trans ((isortG_perm r).cons p)
variable (tot : ∀ a b, le a b = true ∨ le b a = true) (tr : ∀ a b c, le a b = true → le b c = true → le a c = true) (an : ∀ a b, le a b = true → le b a = true → a = b)
include tot tr in
theorem insG_up (p : α) : ∀ l, l.Pairwise (fun a b => le a b = true) → (insG le p l).Pairwise (fun a b => le a b = true)
  | [], _ => List.pairwise_singleton _ _
  | q :: r, h => by
    obtain ⟨h1, h2⟩ := List.pairwise_cons.mp h
    unfold insG
    cases e : le p q with
    | true =>
      refine List.pairwise_cons.mpr ⟨fun x hx => ?_, h⟩
      rcases List.mem_cons.mp hx with rfl | hx
      · exact e
      · exact tr _ _ _ e (h1 x hx)
    | false =>
      refine List.pairwise_cons.mpr ⟨fun x hx => ?_, insG_up p r h2⟩
      have hx := (insG_perm p r).mem_iff.mp hx
      rcases List.mem_cons.mp hx with rfl | hx
      · rcases tot q x with z | z
        · exact z
        · rw [z] at e
          cases e
      · exact h1 x hx
include tot tr in
theorem isortG_up : ∀ l, (isortG le l).Pairwise (fun a b => le a b = true)
  | [] => List.Pairwise.nil
  | p :: r => insG_up tot tr p _ (isortG_up r)
include an in
theorem oneG : ∀ {l m : List α}, l.Perm m → l.Pairwise (fun a b => le a b = true) → m.Pairwise (fun a b => le a b = true) → l = m
  | [], m, h, _, _ => by rw [List.Perm.nil_eq h]
  | a :: l, [], h, _, _ => by
    have := h.length_eq
    simp at this
  | a :: l, b :: m, h, h1, h2 => by
    obtain ⟨k1, k2⟩ := List.pairwise_cons.mp h1
    obtain ⟨k3, k4⟩ := List.pairwise_cons.mp h2
    have e : a = b := by
      rcases List.mem_cons.mp (h.mem_iff.mp List.mem_cons_self) with e | ha
      · exact e
      · rcases List.mem_cons.mp (h.mem_iff.mpr List.mem_cons_self) with e | hb
        · exact e.symm
        · exact an _ _ (k1 b hb) (k3 a ha)
    subst e
    rw [oneG ((List.perm_cons a).mp h) k2 k4]
include tot tr an in
theorem mergeG (ps : List α) : ps.mergeSort le = isortG le ps := by
  refine oneG an ((List.mergeSort_perm _ _).trans (isortG_perm ps).symm) ?_ (isortG_up tot tr ps)
  exact List.pairwise_mergeSort (le := le) (fun a b c h k => tr a b c h k) (fun a b => by
    rcases tot a b with h | h <;> simp [h]) ps
end
theorem leqL_tot : ∀ p q, leqL p q = true ∨ leqL q p = true
  | [], _ => .inl (by unfold leqL; rfl)
  | _ :: _, [] => .inr (by unfold leqL; rfl)
  | a :: r, b :: s => by
    unfold leqL
    rcases Int.lt_trichotomy a b with z | z | z
    · exact .inl (by rw [decide_eq_true z]; rfl)
    · subst z
      have n : ¬ a < a := Int.lt_irrefl a
      rw [decide_eq_false n, decide_eq_true (rfl : a = a)]
      exact leqL_tot r s
    · exact .inr (by rw [decide_eq_true z]; rfl)
theorem leqL_cons {a b : Int} {r s : List Int} : leqL (a :: r) (b :: s) = true ↔ a < b ∨ (a = b ∧ leqL r s = true) := by
  rw [leqL]
  by_cases z : a < b
  · simp [z]
  · by_cases y : a = b
    · simp [y]
    · simp [z, y]
theorem leqL_tr : ∀ p q r, leqL p q = true → leqL q r = true → leqL p r = true
  | [], _, _, _, _ => by unfold leqL; rfl
  | _ :: _, [], _, h, _ => by unfold leqL at h; cases h
  | _ :: _, _ :: _, [], _, h => by unfold leqL at h; cases h
  | a :: p, b :: q, c :: r, h, k => by
    rw [leqL_cons] at *
    rcases h with h | ⟨h, h2⟩
    · rcases k with k | ⟨k, _⟩
      · exact .inl (Int.lt_trans h k)
      · exact .inl (by rw [← k]; exact h)
    · rcases k with k | ⟨k, k2⟩
      · exact .inl (by rw [h]; exact k)
      · exact .inr ⟨h.trans k, leqL_tr p q r h2 k2⟩
theorem leqL_an : ∀ p q, leqL p q = true → leqL q p = true → p = q
  | [], [], _, _ => rfl
  | [], _ :: _, _, h => by unfold leqL at h; cases h
  | _ :: _, [], h, _ => by unfold leqL at h; cases h
  | a :: p, b :: q, h, k => by
    rw [leqL_cons] at *
    rcases h with h | ⟨h, h2⟩
    · rcases k with k | ⟨k, _⟩
      · exact absurd (Int.lt_trans h k) (Int.lt_irrefl _)
      · rw [k] at h
        exact absurd h (Int.lt_irrefl _)
    · rcases k with k | ⟨_, k2⟩
      · rw [h] at k
        exact absurd k (Int.lt_irrefl _)
      · rw [h, leqL_an p q h2 k2]
theorem leqL_eq : ∀ p q : List Int, leqL p q = !decide (q < p)
  | [], q => by
    unfold leqL
    simp
  | a :: r, [] => by
    unfold leqL
    simp
  | a :: r, b :: s => by
    rw [Bool.eq_iff_iff, leqL_cons, leqL_eq r s]
    simp only [Bool.not_eq_true', decide_eq_false_iff_not, List.cons_lt_cons_iff]
    rcases Int.lt_trichotomy a b with z | z | z
    · have n1 : ¬ b < a := by omega
      have n2 : ¬ b = a := by omega
      simp [z, n1, n2]
    · subst z
      simp
    · have n1 : ¬ a < b := by omega
      have n2 : ¬ a = b := by omega
      simp [z, n1, n2]
theorem sortL_eq (ls : List (List Int)) : ls.mergeSort (PySem.W.dataLe false tupI) = isortG leqL ls := by
  have e : PySem.W.dataLe false tupI = leqL := by
    funext p q
    show (!PySem.W.dataLt (.tuple (q.map .int)) (.tuple (p.map .int))) = _
    rw [PySem.W.dataLt_tuple]
    have k := PySem.W.dataLt_ints q p
    unfold PySem.W.rowLt at k
    rw [k, leqL_eq]
  rw [e]
  exact mergeG leqL_tot leqL_tr leqL_an ls
/-! ### the call -/
section
variable {X : Cx} {pins : List (Addr × Obj)} {σ : L2.St} {H : Hp} {s : Shared}
def LiAt (K : PySem.W.Frag) (H : Hp) (Gd : Addr → List Int → Prop) (v : Value) (l : List Int) : Prop := ∃ a, v = .ref a ∧ SqT K H a (l.map V.int) ∧ Gd a l
theorem ints_reads {h : Heap} : ∀ {l : List Int} {us : List Value}, Vals (l.map V.int) us → ReadsAll h us (l.map PyData.int) []
  | [], _, .nil => .nil
  | i :: l, _, .cons r t => by
    obtain ⟨k, rfl⟩ := r
    exact .cons (.int _ _) (ints_reads t)
theorem li_reads (I : L2.Inv X pins σ H s) {Gd : Addr → List Int → Prop} {v : Value} {l : List Int} (h : LiAt X.K H Gd v l) : Reads s.heap v (tupI l) [] := by
  obtain ⟨a, rfl, q, _⟩ := h
  obtain ⟨its, r, ⟨o, h1, h2, n, h3⟩, _⟩ := I.tuple q
  exact .tuple h1 h2 h3 (ints_reads r)
end
open PySem.W in
theorem each_li {K : PySem.W.Frag} {H : Hp} {Gd : Addr → List Int → Prop} : ∀ {xs : List (Addr × List Int)}, (∀ z ∈ xs, SqT K H z.1 (z.2.map V.int) ∧ Gd z.1 z.2) → EachIs (LiAt K H Gd) (xs.map fun z => Value.ref z.1) (xs.map (·.2))
  | [], _ => .nil
  | z :: r, h => .cons ⟨z.1, rfl, (h z List.mem_cons_self).1, (h z List.mem_cons_self).2⟩ (each_li fun y hy => h y (List.mem_cons_of_mem _ hy))
open PySem.W in
theorem each_lo {K : PySem.W.Frag} {H : Hp} {Gd : Addr → List Int → Prop} : ∀ {vs : List Value} {ls : List (List Int)}, EachIs (LiAt K H Gd) vs ls → ∃ out : List (Addr × List Int), out.map (·.2) = ls ∧ vs = out.map (fun q => Value.ref q.1) ∧ ∀ q ∈ out, Gd q.1 q.2
  | _, _, .nil => ⟨[], rfl, rfl, fun _ z => by cases z⟩
  | _, _, .cons (b := l) ⟨a, e, _, q⟩ r => by
    obtain ⟨out, h1, h2, h3⟩ := each_lo r
    refine ⟨(a, l) :: out, by rw [List.map_cons, h1], by rw [List.map_cons, h2, e], fun x hx => ?_⟩
    rcases List.mem_cons.mp hx with rfl | hx
    · exact q
    · exact h3 x hx
theorem refs_vals : ∀ (xs : List (Addr × List Int)), Vals (xs.map fun z => V.ref z.1) (xs.map fun z => Value.ref z.1)
  | [] => .nil
  | _ :: r => .cons rfl (refs_vals r)
theorem refs_eq : ∀ {xs : List (Addr × List Int)} {us : List Value}, Vals (xs.map fun z => V.ref z.1) us → us = xs.map fun z => Value.ref z.1
  | [], _, .nil => rfl
  | z :: r, _, .cons h t => by
    rw [refs_eq t]
    obtain rfl := h
    rfl
theorem depth_ints : ∀ l : List Int, PyData.depthAll (l.map PyData.int) = 0
  | [] => by simp [PyData.depthAll]
  | i :: r => by
    rw [List.map_cons, PyData.depthAll, depth_ints r]
    simp [PyData.depth]
def rSortL (X : Cx) : List V → Hp → VK → Prop := fun vs H Q => ∃ (b : Addr) (xs : List (Addr × List Int)) (Gd : Addr → List Int → Prop), vs = [.ref b] ∧ SqL X.K H b (xs.map fun z => V.ref z.1) ∧
  (∀ z ∈ xs, (SqT X.K H z.1 (z.2.map V.int) ∧ Gd z.1 z.2) ∧ z.2 ≠ []) ∧
  ∀ p (out : List (Addr × List Int)), H p = none → out.map (·.2) = (xs.map (·.2)).mergeSort (PySem.W.dataLe false tupI) → (∀ q ∈ out, Gd q.1 q.2) → Q (.ref p) (upd H p (.lst (out.map fun q => V.ref q.1)))
open PySem.W in
theorem cr_sortL {X : Cx} (hu : X.A.units + 200 < cLine) : CallR X (.builtin "sorted") (rSortL X) := by
  intro pins s σ H ws us Q I r h
  obtain ⟨b, xs, Gd, ex, hb, hq, q⟩ := h
  subst ex
  obtain ⟨u, rfl, rx⟩ := vals1 r
  obtain rfl : u = Value.ref b := rx
  obtain ⟨its, rv, pl, hz⟩ := I.list hb
  rw [refs_eq rv] at pl
  have lx : (xs.map fun z => Value.ref z.1).length ≤ sizeLine := by
    rw [List.length_map]
    rw [List.length_map] at hz
    exact hz
  refine Calls.call_function_entry PyProof.Rows.kind_sorted PyProof.Rows.plain_sorted PyProof.Rows.entry_sorted (PyProof.Rows.args_sorted1 _) ?_
  unfold Builtin.«sorted»
  refine wpAny_bind (m := checkCount "sorted" 1 1 _) (wpAny_pure ?_)
  refine wpAny_bind (collect_list pl.isList ?_ lx)
  generalize eh : ((s.heap.push (seqObj "list" #[] 0)).update s.heap.objs.size (Obj.mapSeq (· ++ (xs.map fun z => Value.ref z.1).toArray))) = h1
  have kp : ∀ c o, s.heap.get? c = some o → h1.get? c = some o := fun c o e => by
    rw [← eh]
    exact (Heap.get?_update_other _ _ (Ne.symm (Nat.ne_of_lt (Heap.lt_size e)))).trans (Heap.get?_push_of_some _ e)
  have I1 : L2.Inv X pins σ H { s with heap := h1 } := I.kept (t' := s.toks) kp
  refine wpAny_bind (wpAny_newList ?_ lx)
  generalize ev : (xs.map fun z => Value.ref z.1) = vs at lx
  have hoL : (h1.push (seqObj "list" vs.toArray 0)).get? h1.objs.size = some (seqObj "list" vs.toArray 0) := Heap.get?_push_size _ rfl
  show wpAny _ _ _ _ _ { s with heap := h1.push (seqObj "list" vs.toArray 0) }
  have e1 : EachIs (LiAt X.K H Gd) vs (xs.map (·.2)) := by
    rw [← ev]
    exact each_li fun z hz => (hq z hz).1
  have I2 : L2.Inv X pins σ H { s with heap := h1.push (seqObj "list" vs.toArray 0) } := I1.kept (t' := s.toks) fun c o e => Heap.get?_push_of_some _ e
  have al : AllAlike ((xs.map (·.2)).map tupI) := AllAlike.of fun l m => by
    show alike (.tuple (l.map .int)) (.tuple (m.map .int)) = true
    rw [alike]
    exact alike_ints l m
  have so : Sortable ((xs.map (·.2)).map tupI) := .inl fun d hd => by
    obtain ⟨l, hl, rfl⟩ := List.mem_map.mp hd
    obtain ⟨z, hz, rfl⟩ := List.mem_map.mp hl
    have ne := (hq z hz).2
    cases hl : z.2 with
    | nil => exact absurd hl ne
    | cons i r => exact ⟨.int i, r.map .int, by unfold tupI; rfl⟩
  have lz : (xs.map (·.2)).length ≤ sizeLine := by
    rw [List.length_map]
    rw [← ev, List.length_map] at lx
    exact lx
  have dep : ∀ l : List Int, (tupI l).depth ≤ 1 := fun l => by
    unfold tupI
    rw [PyData.depth, depth_ints]
    exact Nat.le_refl _
  refine wpAny_bind (wpAny_holding (list_sort_data (s := { s with heap := h1.push (seqObj "list" vs.toArray 0) }) (vs := vs) (bs := xs.map (·.2)) (enc := tupI) (R := LiAt X.K H Gd) hoL e1 (e1.mono fun v l h => ⟨[], li_reads I2 h, by simp⟩) al so lz (fun l _ => ?_) fun out hol hout => ?_))
  · have := dep l
    show X.A.units + 1 + 1 + (tupI l).depth < cLine
    omega
  · obtain ⟨o2, k1, k2, k3⟩ := each_lo hout
    obtain ⟨e', he'⟩ := PyProof.Rows.sortedHeap_at (vs := vs) (out := out.toArray) hoL
    have hlen : (o2.map fun q => V.ref q.1).length ≤ sizeLine := by
      rw [List.length_map]
      have : o2.length = out.length := by rw [k2, List.length_map]
      omega
    refine wpAny_pure ⟨_, rfl, .ref h1.objs.size, upd H h1.objs.size (.lst (o2.map fun q => V.ref q.1)), I1.laid (t' := s.toks) (fun c u e => ?_) (Nat.le_refl _) ⟨hlen, out, e', by rw [k2]; exact refs_vals o2, he'⟩, rfl, q _ o2 (I1.hok.fresh (Nat.le_refl _)) k1 k3⟩
    have hc : c < h1.objs.size := Heap.lt_size e
    rw [PyProof.Rows.sortedHeap_old (Nat.ne_of_lt hc) (by rw [size_push']; exact Nat.lt_succ_of_lt hc)]
    exact Heap.get?_push_of_some _ e
/-! ### as a built-in -/
section
variable {T : Tab} {X : Cx} {W : WX} {B : Bs}
theorem lis_at {K : PySem.W.Frag} {Z : Hp} : ∀ {ws : List V} {ds : List PyData} {ls : List (List Int)}, RDs K Z ws ds → rowsV ds = some ls → ∃ xs : List (Addr × List Int), ws = xs.map (fun z => V.ref z.1) ∧ xs.map (·.2) = ls ∧ ∀ z ∈ xs, SqT K Z z.1 (z.2.map V.int) ∧ z.2 ≠ []
  | _, [], ls, .nil, e => by
    cases e
    exact ⟨[], rfl, rfl, fun _ z => by cases z⟩
  | _, d :: ds, ls, .cons h t, e => by
    obtain ⟨l, e1, e2⟩ := Option.bind_eq_some_iff.mp (show (rowV d).bind (fun l => (rowsV ds).map (l :: ·)) = some ls from e)
    obtain ⟨ms, e3, rfl⟩ := Option.map_eq_some_iff.mp e2
    obtain ⟨xs, k1, k2, k3⟩ := lis_at t e3
    unfold rowV at e1
    split at e1
    · rename_i d0 ds0
      cases h with
      | @tup a us _ q rr =>
        have eu := intsOf_rep rr e1
        refine ⟨(a, l) :: xs, by rw [List.map_cons, k1], by rw [List.map_cons, k2], fun y hy => ?_⟩
        rcases List.mem_cons.mp hy with rfl | hy
        · refine ⟨by rw [← eu]; exact q, fun z => ?_⟩
          have z : l = [] := z
          subst z
          cases rr with
          | cons _ _ => cases eu
        · exact k3 y hy
    · cases e1
theorem rds_lo {K : PySem.W.Frag} {Z : Hp} : ∀ (out : List (Addr × List Int)), (∀ q ∈ out, SqT K Z q.1 (q.2.map V.int)) → RDs K Z (out.map fun q => V.ref q.1) ((out.map (·.2)).map tupI)
  | [], _ => .nil
  | q :: r, h => .cons (.tup (h q List.mem_cons_self) (rdInts q.2)) (rds_lo r fun x hx => h x (List.mem_cons_of_mem _ hx))
where
  rdInts : ∀ l : List Int, RDs K Z (l.map V.int) (l.map PyData.int)
    | [] => .nil
    | _ :: r => .cons (.int _) (rdInts r)
theorem bm_sorted (U : XU X) : BltM T X W (.builtin "sorted") (blt .sorted) := by
  refine BltM.of (cr_sortL U.un) fun B g H H0 σ sd xs vs Q S R hw => ?_
  match xs, R, hw with
  | [a], R, hw =>
    obtain ⟨v, rfl, r⟩ := R.one
    obtain ⟨ls, e, hw⟩ := wp_ofOpt hw
    obtain ⟨hz, hw⟩ := wp_guard hw
    have hw : PR X.K T B σ sd Q g H (.l true ((isortG leqL ls).map tupI)) := hw
    obtain ⟨ds, e1, e2⟩ := Option.bind_eq_some_iff.mp e
    obtain ⟨p, ws, rfl, q, rr⟩ := r.seqL S e1
    obtain ⟨zs, k1, k2, k3⟩ := lis_at rr e2
    rw [k1] at q
    refine ⟨p, zs, fun c l => SqT X.K g.Z c (l.map V.int), rfl, q, fun z hz => ⟨⟨S.sqT (k3 z hz).1, (k3 z hz).1⟩, (k3 z hz).2⟩, fun c out np eo ho => ?_⟩
    rw [k2, sortL_eq] at eo
    have rd := rds_lo (K := X.K) (Z := g.Z) out ho
    rw [eo] at rd
    exact PR.newL hw S np rd
  | [], R, hw => exact False.elim hw
  | _ :: _ :: _, R, hw => exact False.elim hw
end
end Rf

set_option Elab.async false
set_option linter.all false
set_option maxRecDepth 100000
set_option maxHeartbeats 1000000
/-! R9: calls of the text's defs, lambdas that are handed to a def. -/
namespace Rf
open PySem PySem.Spec PyProof.Rows L2

/-! ### what a def promises -/
/-- how a call's value lies; H0: the heap at the call -/
def ResC (K : PySem.W.Frag) (T : Tab) (H0 : Hp) (g : Gh) (H : Hp) (v : V) : Res → Prop
  | .v x => Rep K T g v x
  | .l fr xs => fr = true ∧ ∃ a, v = .ref a ∧ OwnL K g H a xs ∧ H0 a = none
def PC (K : PySem.W.Frag) (T : Tab) (Q : VK) (g : Gh) (H : Hp) (r : Res) : Prop := ∀ v g' H', Step g H g' H' → Good T g' H' → ResC K T H g' H' v r → Q v H'
def PXC (K : PySem.W.Frag) (T : Tab) (E : XK) (g : Gh) (H : Hp) (c : Nat) (k : Option PyData) : Prop := ∀ cls d g' H', Step g H g' H' → Good T g' H' → ExcV K T g' H' cls d c k → E cls d H'
/-- the def at f, called with values, comes to what m says -/
structure FnG (P : Program) (w : World) (K : PySem.W.Frag) (mg : Str → Option Value) (base : Heap) (T : Tab) (k : Nat) (f : Addr) (m : List Val → M Res) : Prop where
  run : ∀ (A : Around) (outer : List Env) (s : Shared) (H : Hp) (g : Gh) (us : List Value) (vs : List V) (xs : List Val) (Q : VK) (E : XK), Room k A → A.guards = some [] → Env0 P w K mg base A outer s H → Good T g H → Vals vs us → Reps K T g vs xs →
    (m xs).wp (PC K T Q g H) (PXC K T E g H) → codeAny (model P w) A (.call (.ref f) ⟨us, []⟩) (CR (L2.CX P w) outer P w H s Q E) s
/-- in the context Z: x() is what th says -/
def ThOk (T : Tab) (Z : Cx) (x : Str) (i : Nat) (B : Bs) (th : M Res) : Prop := ∀ (pn : List (Addr × Obj)) (xe : Value → Shared → Prop) (W : WX) (p1 p2 : Pos), Takes (Z.tr pn xe) W →
  PE (Z.tr pn xe) (.Call (.Name x p1) [] [] p2) (tE Z.K T B W (thkAt th i))
/-- the def at f, called with a lambda that comes to th, comes to what m says of it -/
structure FnT (P : Program) (w : World) (K : PySem.W.Frag) (mg : Str → Option Value) (base : Heap) (T : Tab) (k : Nat) (f : Addr) (m : M Res → M Res) : Prop where
  run : ∀ (A : Around) (outer : List Env) (s : Shared) (H : Hp) (g : Gh) (fl : Addr) (th : M Res) (Q : VK) (E : XK), Room (k + 1) A → A.guards = some [] → Env0 P w K mg base A outer s H → Good T g H →
    (∀ (N : List Str) (q : Str) (sc : Scope) (cd : Value) (x : Str) (i : Nat), N[i]? = some x → Vis sc x → (x == ("__debug__" : Str)) = false → (x == ("__classdict__" : Str)) = false → Room k (A.deeper (envOfC q sc s.heap.objs.size f cd)) →
      ThOk T (cxOf (L2.CX P w) P w K mg base N q sc f cd A outer s H E) x i ⟨g, H, some fl⟩ th) →
    (m th).wp (PC K T Q g H) (PXC K T E g H) → codeAny (model P w) A (.call (.ref f) ⟨[.ref fl], []⟩) (CR (L2.CX P w) outer P w H s Q E) s
theorem FnG.mono {P : Program} {w : World} {K : PySem.W.Frag} {mg : Str → Option Value} {base : Heap} {T : Tab} {j k : Nat} {f : Addr} {m : List Val → M Res} (F : FnG P w K mg base T j f m) (h : j ≤ k) : FnG P w K mg base T k f m :=
  ⟨fun A outer s H g us vs xs Q E hr => F.run A outer s H g us vs xs Q E (hr.mono h)⟩

section
variable {T : Tab} {X : Cx} {W : WX} {B : Bs} {pos : Pos}
theorem ResC.resV {B : Bs} {σ : L2.St} {sd : Sl} {H0 : Hp} {g g1 : Gh} {H : Hp} {v : V} {r : Res} (S : SR X.K T B g H0 σ sd) (h : ResC X.K T H0 g1 H v r) : ResV X.K T B σ sd H0 g1 H v r := by
  cases r with
  | v x => exact h
  | l fr xs =>
    obtain ⟨rfl, a, e, o, n⟩ := h
    exact ⟨a, e, o, S.bsn n, fun _ => ⟨S.notOwn n, n⟩⟩
/-- the callee's end in the caller's words -/
theorem wp_callee {B : Bs} {σ : L2.St} {sd : Sl} {g : Gh} {H : Hp} {m : M Res} {Q : VK} (S : SR X.K T B g H σ sd) (h : m.wp (PR X.K T B σ sd Q g H) (PX X.K T B W σ sd g H)) :
    m.wp (PC X.K T Q g H) (PXC X.K T (fun cls d H' => W cls d σ H') g H) :=
  M.wp_mono _ h (fun _ hq v g1 H1 st G R => hq v g1 H1 st (S.step st G) (R.resV S)) fun _ _ hq cls d g1 H1 st G R => hq cls d g1 H1 st (S.step st G) R
theorem run_def {f : Addr} {k : Nat} {m : List Val → M Res} {pins : List (Addr × Obj)} {σ : L2.St} {H : Hp} {s : Shared} {Q : VK} {us : List Value} {vs : List V} {xs : List Val} {B : Bs} {sd : Sl} {g : Gh} (F : FnG X.prog X.w X.K X.mg X.base T k f m) (U : XU X) (hr : Room k X.A) (tk : Takes X W)
    (I : L2.Inv X pins σ H s) (S : SR X.K T B g H σ sd) (rv : Vals vs us) (R : Reps X.K T g vs xs) (h : (m xs).wp (PR X.K T B σ sd Q g H) (PX X.K T B W σ sd g H)) : wpAny (model X.prog X.w) X.A (call (.ref f) us) (EP X pins σ Q) X.xe s := by
  refine wpAny_call (codeAny_mono (F.run X.A X.stack s H g us vs xs Q _ hr U.gd I.env0 S.good rv R (wp_callee S h)) fun r s' hq => ?_)
  cases r with
  | error e => exact tk e s' (XE.of_call I (fun cls d H' h => h) hq)
  | ok fl =>
    cases fl with
    | ret u => exact I.after hq
    | next => exact False.elim hq
    | brk => exact False.elim hq
    | cont => exact False.elim hq
theorem star_any {env : PySem.Env} : ∀ (es : List Expr), (∀ a ∈ es, noStar a = true) → (backTo pos (starEach es env)).any (·.1) = false
  | [], _ => rfl
  | a :: r, h => by
    rw [star_ok (h a List.mem_cons_self)]
    exact star_any r fun b hb => h b (List.mem_cons_of_mem _ hb)
/-- x(..), x a def of the text -/
theorem ee_call {f : Addr} {k : Nat} {m : List Val → M Res} {x : Str} {p : Pos} {e : Expr} {es : List Expr} {ml : Sl → M (List Val)} (F : FnG X.prog X.w X.K X.mg X.base T k f m) (U : XU X) (hr : Room k X.A) (tk : Takes X W) (hg : Gl X x) (hm : X.mg x = some (.ref f)) (hk : PySem.W.keepIn X.K (.ref f) = true)
    (ha : EA T X W B (e :: es) ml) (hn : ∀ a ∈ e :: es, noStar a = true) (hd : (x == ("__debug__" : Str)) = false) : EE T X W B (.Call (.Name x p) (e :: es) [] pos) fun s => (ml s).bind m := by
  refine ⟨fun pins s σ H Q I h => ?_⟩
  obtain ⟨g, sd, S, hw⟩ := h
  refine wpAny_Call_Name_kw (ld_glob I hg hm ?_ hd)
  refine PySem.W.callWith_K (h₀ := X.base) I.ok.mod.kin hk (thn (ha.run pos pins s σ H (fun vs H1 => ∃ g1 xs, Step g H g1 H1 ∧ SR X.K T B g1 H1 σ sd ∧ Reps X.K T g1 vs xs ∧ (m xs).wp (PR X.K T B σ sd Q g1 H1) (PX X.K T B W σ sd g1 H1)) I
    (tL.step S hw fun vs g1 H1 xs st S1 R hk => ⟨g1, xs, st, S1, R, wkE hk st⟩)) fun us s1 ⟨vs, H1, I1, r1, g1, xs, st, S1, R, hk⟩ => ⟨I1.kIn, run_def F U hr tk I1 S1 r1 R hk⟩) (star_ok (hn e List.mem_cons_self)) (star_any es fun a ha => hn a (List.mem_cons_of_mem _ ha))
/-- x() -/
theorem ee_call0 {f : Addr} {k : Nat} {m : List Val → M Res} {x : Str} {p : Pos} (F : FnG X.prog X.w X.K X.mg X.base T k f m) (U : XU X) (hr : Room k X.A) (tk : Takes X W) (hg : Gl X x) (hm : X.mg x = some (.ref f)) (hk : PySem.W.keepIn X.K (.ref f) = true)
    (hd : (x == ("__debug__" : Str)) = false) : EE T X W B (.Call (.Name x p) [] [] pos) fun _ => m [] := by
  refine ⟨fun pins s σ H Q I h => ?_⟩
  obtain ⟨g, sd, S, hw⟩ := h
  refine wpAny_Call_Name_kw (ld_glob I hg hm ?_ hd)
  exact PySem.W.callWith_K0 I.kIn hk (run_def F U hr tk I S (us := []) .nil .nil hw)
theorem star_some {env : PySem.Env} : ∀ (es : List Expr), (es.any fun a => !noStar a) = true → (backTo pos (starEach es env)).any (·.1) = true
  | [], h => by cases h
  | a :: r, h => by
    cases q : noStar a with
    | true =>
      rw [star_ok q]
      refine star_some r ?_
      rw [List.any_cons, q] at h
      exact h
    | false =>
      cases a with
      | Starred e p => rfl
      | _ => cases q
/-- x(e, .., *y, ..) -/
theorem ee_callS2 {f : Addr} {k : Nat} {m : List Val → M Res} {x : Str} {p : Pos} {e : Expr} {es : List Expr} {ml : Sl → M (List Val)} (F : FnG X.prog X.w X.K X.mg X.base T k f m) (U : XU X) (hr : Room k X.A) (tk : Takes X W) (hg : Gl X x) (hm : X.mg x = some (.ref f)) (hk : PySem.W.keepIn X.K (.ref f) = true)
    (ha : EA T X W B (e :: es) ml) (hn : noStar e = true) (hs : (es.any fun a => !noStar a) = true) (hd : (x == ("__debug__" : Str)) = false) : EE T X W B (.Call (.Name x p) (e :: es) [] pos) fun s => (ml s).bind m := by
  refine ⟨fun pins s σ H Q I h => ?_⟩
  obtain ⟨g, sd, S, hw⟩ := h
  refine wpAny_Call_Name_kw (ld_glob I hg hm ?_ hd)
  exact PySem.W.callWith_S2 (h₀ := X.base) I.ok.mod.kin hk (thn (ha.run pos pins s σ H (fun vs H1 => ∃ g1 xs, Step g H g1 H1 ∧ SR X.K T B g1 H1 σ sd ∧ Reps X.K T g1 vs xs ∧ (m xs).wp (PR X.K T B σ sd Q g1 H1) (PX X.K T B W σ sd g1 H1)) I
    (tL.step S hw fun vs g1 H1 xs st S1 R hk => ⟨g1, xs, st, S1, R, wkE hk st⟩)) fun us s1 ⟨vs, H1, I1, r1, g1, xs, st, S1, R, hk⟩ => ⟨I1.kIn, run_def F U hr tk I1 S1 r1 R hk⟩) (star_ok hn) (star_some es hs)
/-- x(*y) -/
theorem ee_callS1 {f : Addr} {k : Nat} {m : List Val → M Res} {x : Str} {p sp : Pos} {e : Expr} {me : Sl → M Res} (F : FnG X.prog X.w X.K X.mg X.base T k f m) (U : XU X) (hr : Room k X.A) (tk : Takes X W) (hg : Gl X x) (hm : X.mg x = some (.ref f)) (hk : PySem.W.keepIn X.K (.ref f) = true)
    (he : EE T X W B e me) (hd : (x == ("__debug__" : Str)) = false) : EE T X W B (.Call (.Name x p) [.Starred e sp] [] pos) fun s => (me s).bind fun r => (M.ofOpt r.items).bind fun ys => m ys := by
  refine ⟨fun pins s σ H Q I h => ?_⟩
  obtain ⟨g, sd, S, hw⟩ := h
  refine wpAny_Call_Name_kw (ld_glob I hg hm ?_ hd)
  refine PySem.W.callWith_S (h₀ := X.base) I.ok.mod.kin hk (thn (he.run pins s σ H (fun v H1 => ∃ g1 xs a vs, v = .ref a ∧ (SqL X.K H1 a vs ∨ SqT X.K H1 a vs) ∧ Step g H g1 H1 ∧ SR X.K T B g1 H1 σ sd ∧ Reps X.K T g1 vs xs ∧ (m xs).wp (PR X.K T B σ sd Q g1 H1) (PX X.K T B W σ sd g1 H1)) I
    (tE.step S hw fun v g1 H1 r st S1 R hk => ?_)) fun u s1 ⟨v, H1, I1, r1, g1, xs, a, vs, ev, q, st, S1, R, hk⟩ => ?_) rfl
  · obtain ⟨ys, e, hk⟩ := wp_ofOpt hk
    obtain ⟨a, vs, rfl, q, rr⟩ := R.its S1 e
    exact ⟨g1, ys, a, vs, rfl, q, st, S1, rr, wkE hk st⟩
  · subst ev
    obtain rfl : u = Value.ref a := r1
    exact StX.star_any I1 q.symm fun us s2 I2 rv => ⟨I2.kIn, run_def F U hr tk I2 S1 rv R hk⟩
/-- x(..), x a name here that holds a def of the text -/
theorem ee_callv {k i : Nat} {c : Nat → List Val → M Res} {x : Str} {p : Pos} {e : Expr} {es : List Expr} {ml : Sl → M (List Val)} (F : ∀ j f, T.fa j = some f → FnG X.prog X.w X.K X.mg X.base T k f (c j) ∧ PySem.W.keepIn X.K (.ref f) = true) (U : XU X) (hr : Room k X.A) (tk : Takes X W)
    (hN : X.N[i]? = some x) (hv : Vis X.env.scope x) (hd : (x == ("__debug__" : Str)) = false) (hcd : (x == ("__classdict__" : Str)) = false) (ha : EA T X W B (e :: es) ml) (hn : ∀ a ∈ e :: es, noStar a = true) :
    EE T X W B (.Call (.Name x p) (e :: es) [] pos) fun s => (fnAt s i).bind fun j => (ml s).bind fun xs => c j xs := by
  refine ⟨fun pins s σ H Q I h => ?_⟩
  obtain ⟨g, sd, S, hw⟩ := h
  obtain ⟨j, f, ej, es', hw⟩ : ∃ j f, T.fa j = some f ∧ σ[i]? = some (some (.ref f)) ∧ ((ml sd).bind fun xs => c j xs).wp (PR X.K T B σ sd Q g H) (PX X.K T B W σ sd g H) := by
    have hw : ((fnAt sd i).bind fun j => (ml sd).bind fun xs => c j xs).wp (PR X.K T B σ sd Q g H) (PX X.K T B W σ sd g H) := hw
    unfold fnAt at hw
    split at hw
    · rename_i j e1
      obtain ⟨v, e2, r⟩ := S.slots i _ e1
      cases r with
      | fn h => exact ⟨j, _, h, e2, (wp_guard ((M.wp_bind _ _ _ _).mp hw)).2⟩
    · exact False.elim hw
  obtain ⟨F, hk⟩ := F j f ej
  refine wpAny_Call_Name_kw (thn ((pe_var (pos := p) hN hv hd hcd).run pins s σ H (fun v H1 => v = .ref f ∧ H1 = H) I ⟨.ref f, es', rfl, rfl⟩) fun u s1 ⟨v, H1, I1, r1, q1⟩ => ?_)
  obtain ⟨rfl, rfl⟩ := q1
  cases r1
  refine PySem.W.callWith_K (h₀ := X.base) I.ok.mod.kin hk (thn (ha.run pos pins s1 σ _ (fun vs H1 => ∃ g1 xs, Step g _ g1 H1 ∧ SR X.K T B g1 H1 σ sd ∧ Reps X.K T g1 vs xs ∧ (c j xs).wp (PR X.K T B σ sd Q g1 H1) (PX X.K T B W σ sd g1 H1)) I1
    (tL.step S hw fun vs g1 H1 xs st S1 R hk => ⟨g1, xs, st, S1, R, wkE hk st⟩)) fun us s1 ⟨vs, H1, I1, r1, g1, xs, st, S1, R, hk⟩ => ⟨I1.kIn, run_def F U hr tk I1 S1 r1 R hk⟩) (star_ok (hn e List.mem_cons_self)) (star_any es fun a ha => hn a (List.mem_cons_of_mem _ ha))

/-! ### lambdas -/
theorem Step.ext {g : Gh} {H H1 : Hp} (G : Good T g H) (e : LamX.ExtN H H1) (t : LamX.Tabs T.tb H1) : Step g H g H1 where
  z := fun _ _ e => e
  zn := fun _ _ e => .inl e
  dc := fun _ d => d
  dn := fun _ d => .inl d
  hp := fun a o h _ n => e a o h n
  there := fun a o h => by
    by_cases z : ∃ ps, o = .tbl ps
    · obtain ⟨ps, rfl⟩ := z
      obtain ⟨q, hq⟩ := G.tbl a ps h
      obtain ⟨ps', h', _⟩ := t _ hq
      exact ⟨_, h'⟩
    · exact ⟨o, e a o h fun ps hp => z ⟨ps, hp⟩⟩
theorem Good.ext {g : Gh} {H H1 : Hp} (G : Good T g H) (e : LamX.ExtN H H1) (t : LamX.Tabs T.tb H1) (tn : ∀ a ps, H1 a = some (.tbl ps) → ∃ q, (a, q) ∈ T.tb) : Good T g H1 where
  zs := fun a o h => e a o (G.zs a o h) fun ps z => G.zt a ps (z ▸ h)
  zt := G.zt
  dc := fun a d => by
    obtain ⟨n, i, j, k, h⟩ := G.dc a d
    exact ⟨n, i, j, k, e a _ h fun ps z => by cases z⟩
  tb := t
  tbl := tn
section
variable {pins : List (Addr × Obj)} {σ : L2.St} {H : Hp} {s : Shared}
/-- a lambda is made; which tables stand is told, too -/
theorem lam_mk {params : Arguments} {body : Expr} {scope : Scope} {c P : Addr} {E : Value → Shared → Prop} {Q : Value → Shared → Prop} (TB : LamX.TabB X.base X.mg c P) (hc : X.env.code = .ref c) (hm : (P, X.env.qual ++ "<lambda>") ∈ T.tb)
    (hu : ∀ p ∈ T.tb, p.1 = P → p.2 = X.env.qual ++ "<lambda>") (hdf : defaultsOf params X.env = ([], [])) (hfr : ∀ y ∈ scope.names, y.2 = .free → ∃ c, X.env.cells.lookup y.1 = some c) (I : L2.Inv X pins σ H s) (hT : LamX.Tabs T.tb H)
    (h : ∀ (fl cl : Addr) (pm ctv : Value) (H2 : Hp) (s2 : Shared), L2.Inv X pins σ H2 s2 → LamX.ExtN H H2 → LamX.Tabs T.tb H2 → (∀ a ps, H2 a = some (.tbl ps) → ∃ ps', H a = some (.tbl ps')) →
      s2.heap.get? fl = some (PySem.W.kla_obj "<lambda>" (X.env.qual ++ "<lambda>") params body scope (cloFrom X.env.cells scope.names []) pm cl ctv) → H2 fl = none → fl ∉ frs X.stack → H2 cl = some (LamX.CodeO cl (X.env.qual ++ "<lambda>")) → Q (.ref fl) s2) :
    wpAny (model X.prog X.w) X.A (eval (.Lambda params body scope pos) X.env) Q E s := by
  refine PySem.W.kla_eval hdf ?_
  obtain ⟨tb, hP, trip, codes⟩ := hT _ hm
  have hP : H P = some (.tbl tb) := hP
  have standP := show s.heap.get? P = some { cls := .none, data := .fields tb } from I.hok P _ hP
  have away : ∀ a, s.heap.objs.size ≤ a → a ∉ frs X.stack := fun a ha z => by
    rcases List.mem_cons.mp (I.stkSub _ z) with q | q
    · exact absurd ha (by rw [q]; exact Nat.not_le_of_lt I.lt)
    · exact I.nofs ha q
  have glob := I.mod.glob.keeps I.bk
  cases known : codeAmong pos tb.toList with
  | some cv =>
    obtain ⟨cl, rfl, hcl⟩ := codes pos cv known
    refine PySem.W.kla_makeFunctionHit (ps := tb) (mg := X.mg) (c := c) (P := P) (closure_ok hfr) I.ok.glob glob hc (TB.code.keeps I.bk) standP trip known (TB.bm.keeps I.bk) fun ctv h2 tk kp grow => ?_
    exact h h2.objs.size cl ((X.mg "__name__").getD .none) ctv H _ (I.kept (t' := tk) fun b o e => Heap.get?_push_of_some _ (kp b o e)) (.refl H) hT (fun _ ps e => ⟨ps, e⟩) (Heap.get?_push_size _ rfl) (I.hok.fresh grow) (away _ grow) hcl
  | none =>
    refine PySem.W.kla_makeFunction (ps := tb) (mg := X.mg) (c := c) (P := P) (closure_ok hfr) I.ok.glob glob hc (TB.code.keeps I.bk) standP trip known TB.gP (TB.bm.keeps I.bk) fun cl ctv h2 tk kp new lt rec newP => ?_
    obtain ⟨c2, oc, vs, t, ec, hoc, hd, hv⟩ := rec
    cases ec
    have grow : s.heap.objs.size ≤ h2.objs.size := Nat.le_trans new (Nat.le_of_lt lt)
    have noC : H cl = none := I.hok.fresh new
    generalize emore : (#[rawInt pos.line, rawInt pos.col, Value.ref cl] : Array Value) = more at newP
    have tl : (tb ++ more).toList = tb.toList ++ [rawInt pos.line, rawInt pos.col, .ref cl] := by rw [← emore]; simp
    have I2 := LamX.inv_table (t' := tk) (more := more) (q := X.env.qual ++ "<lambda>") (h' := h2.push (PySem.W.kla_obj "<lambda>" (X.env.qual ++ "<lambda>") params body scope (cloFrom X.env.cells scope.names []) ((X.mg "__name__").getD .none) cl ctv)) I hP
      (fun b o hb e => Heap.get?_push_of_some _ (kp b o hb e)) (Heap.get?_push_of_some _ newP) new ⟨oc, vs, t, Heap.get?_push_of_some _ hoc, hd, hv⟩
    have up : LamX.ExtN H (upd (upd H P (.tbl (tb ++ more))) cl (LamX.CodeO cl (X.env.qual ++ "<lambda>"))) := fun b o e n => by
      rw [upd_ne (ne_of_none e noC)]
      by_cases z : b = P
      · subst z
        rw [hP] at e
        exact absurd (Option.some.inj e).symm (n tb)
      · rw [upd_ne z]
        exact e
    refine h h2.objs.size cl ((X.mg "__name__").getD .none) ctv _ _ I2 up (fun p hp => ?_) (fun a ps e => ?_) (Heap.get?_push_size _ rfl) ?_ (away _ grow) upd_same
    · obtain ⟨t0, a1, a2, a3⟩ := hT p hp
      by_cases hb : p.1 = P
      · refine ⟨tb ++ more, by rw [hb, upd_ne (ne_of_none hP noC), upd_same], by rw [tl]; exact PySem.TriplesOk_snoc _ _ _ _ trip, fun p' cv hcv => ?_⟩
        rw [tl] at hcv
        rw [hu p hp hb]
        rcases LamX.among_app _ trip hcv with z | z
        · obtain ⟨c0, e1, e2⟩ := codes p' cv z
          exact ⟨c0, e1, up _ _ e2 LamX.codeO_ne⟩
        · exact ⟨cl, z, upd_same⟩
      · refine ⟨t0, by rw [upd_ne (ne_of_none a1 noC), upd_ne hb]; exact a1, a2, fun p' cv hcv => ?_⟩
        obtain ⟨c0, e1, e2⟩ := a3 p' cv hcv
        exact ⟨c0, e1, up _ _ e2 LamX.codeO_ne⟩
    · by_cases z : a = cl
      · rw [z, upd_same] at e
        exact absurd (Option.some.inj e) (LamX.codeO_ne ps)
      · rw [upd_ne z] at e
        by_cases z2 : a = P
        · exact ⟨tb, by rw [z2]; exact hP⟩
        · rw [upd_ne z2] at e
          exact ⟨ps, e⟩
    · rw [upd_ne (Nat.ne_of_gt lt), upd_ne (Nat.ne_of_gt (Nat.lt_of_lt_of_le (Heap.lt_size standP) grow))]
      exact I.hok.fresh grow
theorem guards_deeper {A : Around} {env : PySem.Env} (h : A.guards = some []) : (A.deeper env).guards = some [] := h
/-- the lambda, called within the def that got it -/
theorem th_ok {B : Bs} {sd : Sl} {g : Gh} {j : Nat} {N : List Str} {q x : Str} {sc scope : Scope} {f fl cl : Addr} {cd pm ctv : Value} {params : Arguments} {body : Expr} {i : Nat} {EO : XK} {me : Sl → M Res}
    (I : L2.Inv X pins σ H s) (S : SR X.K T B g H σ sd) (L : LamX.LamS X.env.scope scope) (hf : s.heap.get? fl = some (PySem.W.kla_obj "<lambda>" (X.env.qual ++ "<lambda>") params body scope (cloFrom X.env.cells scope.names []) pm cl ctv)) (hfn : H fl = none) (hfr : fl ∉ frs X.stack)
    (hco : H cl = some (LamX.CodeO cl (X.env.qual ++ "<lambda>"))) (hbind : bindArgs (PySem.W.kla_fn "<lambda>" (X.env.qual ++ "<lambda>") params body scope (cloFrom X.env.cells scope.names []) pm (.ref cl) ctv) ⟨[], []⟩ = pure [])
    (hg : X.A.guards = some []) (hN : N[i]? = some x) (hv : Vis sc x) (hd : (x == ("__debug__" : Str)) = false) (hcd : (x == ("__classdict__" : Str)) = false) (hr : Room (j + 1) (X.A.deeper (envOfC q sc s.heap.objs.size f cd)))
    (hbody : ∀ (A : Around) (outer : List PySem.Env) (s : Shared) (H : Hp) (E : XK), Room j (A.deeper (LamX.lamEnv X scope s.heap.objs.size fl cl)) → A.guards = some [] → EE T (LamX.lamCx X A outer s H E scope fl cl) (fun cls d _ H' => E cls d H') B body me) :
    ThOk T (cxOf (L2.CX X.prog X.w) X.prog X.w X.K X.mg X.base N q sc f cd X.A X.stack s H EO) x i ⟨g, H, some fl⟩ (noOwn (me sd)) := by
  intro pn xe W p1 p2 tk
  refine ⟨fun pinsZ sZ σZ HZ Q IZ h => ?_⟩
  obtain ⟨g2, sdZ, SZ, hw⟩ := h
  have hw : (thkAt (noOwn (me sd)) i sdZ).wp (PR X.K T ⟨g, H, some fl⟩ σZ sdZ Q g2 HZ) (PX X.K T ⟨g, H, some fl⟩ W σZ sdZ g2 HZ) := hw
  unfold thkAt at hw
  split at hw
  case h_2 => exact False.elim hw
  rename_i e1
  obtain ⟨v, e2, a, rfl, e3⟩ := SZ.slots i _ e1
  cases e3
  have st : Step g H g2 HZ := SZ.base
  have S2 : SR X.K T B g2 HZ σ sd := S.step st SZ.good
  have hcZ : HZ cl = some (LamX.CodeO cl (X.env.qual ++ "<lambda>")) := st.hp cl _ hco (fun d => by
    obtain ⟨_, a, b, c, z⟩ := S.good.dc cl d
    rw [hco] at z
    unfold LamX.CodeO at z
    cases z) LamX.codeO_ne
  refine wpAny_Call_Name_kw (thn ((pe_var (pos := p1) (i := i) hN hv hd hcd).run pinsZ sZ σZ HZ (fun v H1 => v = .ref fl ∧ H1 = HZ) IZ ⟨.ref fl, e2, rfl, rfl⟩) fun u s1 ⟨v, H1, I1, r1, q1⟩ => ?_)
  obtain ⟨rfl, rfl⟩ := q1
  cases r1
  have of1 : s1.heap.get? fl = some (PySem.W.kla_obj "<lambda>" (X.env.qual ++ "<lambda>") params body scope (cloFrom X.env.cells scope.names []) pm cl ctv) := I1.base.keep fl _ hf hfn hfr fun z => nomatch (show fl ∈ ([] : List Addr) from z)
  have un : Un (frs X.stack) [] H H1 s.heap s1.heap := I1.base
  obtain ⟨⟨oc, vs, t, hoc, hdc, hvc⟩, _, _⟩ := I1.hok cl _ hcZ
  have rc : codeAny (model X.prog X.w) (X.A.deeper (envOfC q sc s.heap.objs.size f cd)) (.call (.ref fl) ⟨[], []⟩) (CR (L2.CX X.prog X.w) (envOfC q sc s.heap.objs.size f cd :: X.stack) X.prog X.w H1 s1 Q fun cls d H' => W cls d σZ H') s1 := by
    refine PySem.W.kla_callFunE hr.depth of1 rfl L.co L.gen rfl ⟨cl, oc, vs, t, rfl, hoc, hdc, hvc⟩ ?_
    rw [hbind]
    refine wpAny_pure (wpAny_newFunctionEnv (fun y hy => (L.own y hy).2) (fun y hy => absurd hy (by simp)) (fun h₁ hns hsb => ⟨I1.nolimit.fresh _ hsb, ?_⟩) L.kind)
    have kp : ∀ b o, s1.heap.get? b = some o → h₁.get? b = some o := fun b o e => hsb.extBut b o (Nat.ne_of_lt (Heap.lt_size e)) (Heap.get?_push_of_some _ e)
    have J := LamX.lam_start2 (f := fl) (c' := cl) (E := fun cls d H' => W cls d σZ H') (tk := s1.toks + ([] : List (Str × Value)).length) I L I1.env0 hr.hd un hns kp
    refine PySem.W.kla_codeExpr (wpAny_mono ((hbody _ _ s1 H1 _ (hr.deeper _) (guards_deeper hg)).run [] _ _ H1 Q J ⟨g2, sd, S2, ?_⟩) (fun v s' hq => ?_) fun e s' hq => hq)
    · refine M.wp_mono _ ((M.wp_bind _ _ _ _).mp hw) (fun r hr v g3 H3 st3 S3 R3 => ?_) fun c k hx cls d g3 H3 st3 S3 R3 => hx cls d g3 H3 st3 (SZ.step st3 S3.good) R3
      obtain ⟨nm, hr⟩ := wp_guard hr
      refine (show PR X.K T ⟨g, H, some fl⟩ σZ sdZ Q g2 _ r from hr) v g3 H3 st3 (SZ.step st3 S3.good) ?_
      cases r with
      | v y => exact R3
      | l fr xs =>
        cases fr with
        | false => cases nm
        | true =>
          obtain ⟨a, e, o, b, n⟩ := R3
          obtain ⟨_, n2⟩ := n rfl
          exact ⟨a, e, o, SZ.bsn n2, fun _ => ⟨SZ.notOwn n2, n2⟩⟩
    · obtain ⟨w', H', J', rv, q⟩ := hq
      exact ⟨w', H', J'.os, J'.bare, J'.base, J'.hok, rv, q⟩
  refine PySem.W.callWith_F0 ⟨_, _, _, _, of1⟩ (wpAny_call (codeAny_mono rc fun r s' hq => ?_))
  cases r with
  | error e => exact tk e s' (XE.of_call I1 (fun cls d H' h => h) hq)
  | ok fl' =>
    cases fl' with
    | ret u => exact I1.after hq
    | next => exact False.elim hq
    | brk => exact False.elim hq
    | cont => exact False.elim hq
end
/-- x(lambda: body), x a def of the text -/
theorem ee_thunk {f c P : Addr} {j : Nat} {m : M Res → M Res} {x : Str} {params : Arguments} {body : Expr} {scope : Scope} {p lpos : Pos} {me : Sl → M Res} (F : FnT X.prog X.w X.K X.mg X.base T (j + 1) f m) (U : XU X) (hr : Room (j + 2) X.A) (tk : Takes X W) (hg : Gl X x) (hm : X.mg x = some (.ref f)) (hk : PySem.W.keepIn X.K (.ref f) = true) (hdb : (x == ("__debug__" : Str)) = false)
    (TB : LamX.TabB X.base X.mg c P) (hc : X.env.code = .ref c) (hmT : (P, X.env.qual ++ "<lambda>") ∈ T.tb) (hu : ∀ p ∈ T.tb, p.1 = P → p.2 = X.env.qual ++ "<lambda>") (L : LamX.LamS X.env.scope scope) (hdef : defaultsOf params X.env = ([], []))
    (hbind : ∀ (q : Str) (cl : List (Str × Addr)) (pm cv ctv : Value), bindArgs (PySem.W.kla_fn "<lambda>" q params body scope cl pm cv ctv) ⟨[], []⟩ = pure [])
    (hbody : ∀ (A : Around) (outer : List PySem.Env) (s : Shared) (H : Hp) (E : XK) (fl cl : Addr), Room j (A.deeper (LamX.lamEnv X scope s.heap.objs.size fl cl)) → A.guards = some [] → EE T (LamX.lamCx X A outer s H E scope fl cl) (fun cls d _ H' => E cls d H') B body me) :
    EE T X W B (.Call (.Name x p) [.Lambda params body scope lpos] [] pos) fun s => m (noOwn (me s)) := by
  refine ⟨fun pins s σ H Q I h => ?_⟩
  obtain ⟨g, sd, S, hw⟩ := h
  refine wpAny_Call_Name_kw (ld_glob I hg hm ?_ hdb)
  refine PySem.W.callWith_K (h₀ := X.base) I.ok.mod.kin hk ?_ (by rfl) (by rfl)
  show wpAny _ _ (spliced ((false, eval (.Lambda params body scope lpos) X.env) :: backTo pos (starEach [] X.env))) _ _ s
  refine Calls.spliced_cons (lam_mk TB hc hmT hu hdef (L.has I.ok) I S.good.tb fun fl cl pm' ctv H1 s1 I1 eN T1 tn hf hfn hfr hco => ?_)
  refine Calls.spliced_nil ⟨I1.kIn, ?_⟩
  have G1 : Good T g H1 := S.good.ext eN T1 fun a ps e => by
    obtain ⟨ps', e'⟩ := tn a ps e
    exact S.good.tbl a ps' e'
  have st : Step g H g H1 := .ext S.good eN T1
  have S1 := S.step st G1
  refine wpAny_call (codeAny_mono (F.run X.A X.stack s1 H1 g fl _ Q _ hr U.gd I1.env0 G1 (fun N q sc cd x i hN hv hd hcd hr2 => th_ok I1 S1 L hf hfn hfr hco (hbind _ _ _ _ _) U.gd hN hv hd hcd hr2 fun A outer s H E hr3 hg3 => hbody A outer s H E fl cl hr3 hg3) (wp_callee S1 (wkE hw st))) fun r s' hq => ?_)
  cases r with
  | error e => exact tk e s' (XE.of_call I1 (fun cls d H' h => h) hq)
  | ok fl =>
    cases fl with
    | ret u => exact I1.after hq
    | next => exact False.elim hq
    | brk => exact False.elim hq
    | cont => exact False.elim hq
end
end Rf

set_option Elab.async false
set_option linter.all false
set_option maxRecDepth 100000
set_option maxHeartbeats 1000000
/-! R10: statements. -/
namespace Rf
open PySem PySem.Spec PyProof.Rows L2

/-- what is known stays known -/
def Mon (g g' : Gh) : Prop := Same g.Z g'.Z ∧ ∀ a, g.dc a → g'.dc a
theorem Mon.refl {g : Gh} : Mon g g := ⟨fun _ _ e => e, fun _ d => d⟩
theorem Mon.trans {g g' g'' : Gh} (a : Mon g g') (b : Mon g' g'') : Mon g g'' := ⟨a.1.trans b.1, fun x d => b.2 x (a.2 x d)⟩
theorem Step.mon {g g' : Gh} {H H' : Hp} (s : Step g H g' H') : Mon g g' := ⟨s.z, s.dc⟩
/-- how a value lies that is handed back -/
def ResR (K : PySem.W.Frag) (T : Tab) (B : Bs) (g : Gh) (H : Hp) (v : V) : Res → Prop
  | .v x => Rep K T g v x
  | .l _ xs => ∃ a, v = .ref a ∧ OwnL K g H a xs ∧ B.H a = none
def PF (K : PySem.W.Frag) (T : Tab) (B : Bs) (D : Ends) (g : Gh) : Fl × Sl → Prop
  | (.nx, sd) => ∀ σ' g' H', Mon g g' → SR K T B g' H' σ' sd → D.nx σ' H'
  | (.brk, sd) => ∀ σ' g' H', Mon g g' → SR K T B g' H' σ' sd → D.bk σ' H'
  | (.cont, sd) => ∀ σ' g' H', Mon g g' → SR K T B g' H' σ' sd → D.ct σ' H'
  | (.ret r, sd) => ∀ v σ' g' H', Mon g g' → SR K T B g' H' σ' sd → ResR K T B g' H' v r → D.rt v H'
def PXS (K : PySem.W.Frag) (T : Tab) (B : Bs) (W : WX) (c : Nat) (k : Option PyData) : Prop := ∀ cls d σ' g' H' sd', SR K T B g' H' σ' sd' → ExcV K T g' H' cls d c k → W cls d σ' H'
def tS (K : PySem.W.Frag) (T : Tab) (B : Bs) (W : WX) (m : Sl → M (Fl × Sl)) : TS := fun D σ H => ∃ g sd, SR K T B g H σ sd ∧ (m sd).wp (PF K T B D g) (PXS K T B W)
def ES (T : Tab) (X : Cx) (W : WX) (B : Bs) (st : Stmt) (m : Sl → M (Fl × Sl)) : Prop := PS X st (tS X.K T B W m)
def ESs (T : Tab) (X : Cx) (W : WX) (B : Bs) (st : List Stmt) (m : Sl → M (Fl × Sl)) : Prop := PSs X st (tS X.K T B W m)

section
variable {K : PySem.W.Frag} {T : Tab} {B : Bs} {W : WX} {σ : L2.St} {sd : Sl} {g g1 : Gh} {H H1 : Hp} {D : Ends}
theorem PF.weak {f : Fl × Sl} (h : PF K T B D g f) (m : Mon g g1) : PF K T B D g1 f := by
  obtain ⟨f, s⟩ := f
  cases f with
  | nx => exact fun σ' g' H' m' => h σ' g' H' (m.trans m')
  | brk => exact fun σ' g' H' m' => h σ' g' H' (m.trans m')
  | cont => exact fun σ' g' H' m' => h σ' g' H' (m.trans m')
  | ret r => exact fun v σ' g' H' m' => h v σ' g' H' (m.trans m')
theorem wkF {m : M (Fl × Sl)} {E : Nat → Option PyData → Prop} (h : m.wp (PF K T B D g) E) (s : Mon g g1) : m.wp (PF K T B D g1) E := M.wp_mono _ h (fun _ x => x.weak s) fun _ _ x => x
theorem PXS.px {c : Nat} {k : Option PyData} (h : PXS K T B W c k) : PX K T B W σ sd g H c k := fun cls d g' H' _ S e => h cls d σ g' H' sd S e
/-- an expression within a statement -/
theorem tE.st {α : Type} {m : Sl → M Res} {k : Res → M α} {P : α → Prop} {Q : VK} (S : SR K T B g H σ sd) (h : ((m sd).bind k).wp P (PXS K T B W))
    (hQ : ∀ v g1 H1 x, Step g H g1 H1 → SR K T B g1 H1 σ sd → ResV K T B σ sd H g1 H1 v x → (k x).wp P (PXS K T B W) → Q v H1) : tE K T B W m σ H Q :=
  ⟨g, sd, S, M.wp_mono _ ((M.wp_bind _ _ _ _).mp h) (fun x hx v g1 H1 st S1 R => hQ v g1 H1 x st S1 R hx) fun _ _ hx => hx.px⟩
theorem tT.st {α : Type} {m : Sl → M Bool} {k : Bool → M α} {P : α → Prop} {Q : Bool → Hp → Prop} (S : SR K T B g H σ sd) (h : ((m sd).bind k).wp P (PXS K T B W))
    (hQ : ∀ b g1 H1, Step g H g1 H1 → SR K T B g1 H1 σ sd → (k b).wp P (PXS K T B W) → Q b H1) : tT K T B W m σ H Q :=
  ⟨g, sd, S, M.wp_mono _ ((M.wp_bind _ _ _ _).mp h) (fun x hx g1 H1 st S1 => hQ x g1 H1 st S1 hx) fun _ _ hx => hx.px⟩
theorem tR.st {α : Type} {m : Sl → M (List Res)} {k : List Res → M α} {P : α → Prop} {Q : List V → Hp → Prop} (S : SR K T B g H σ sd) (h : ((m sd).bind k).wp P (PXS K T B W))
    (hQ : ∀ vs g1 H1 xs, Step g H g1 H1 → SR K T B g1 H1 σ sd → ResVs K T B σ sd H g1 H1 vs xs → (k xs).wp P (PXS K T B W) → Q vs H1) : tR K T B W m σ H Q :=
  ⟨g, sd, S, M.wp_mono _ ((M.wp_bind _ _ _ _).mp h) (fun x hx v g1 H1 st S1 R => hQ v g1 H1 x st S1 R hx) fun _ _ hx => hx.px⟩
theorem tI.st {α : Type} {m : Sl → M (Bool × List Val)} {k : Bool × List Val → M α} {P : α → Prop} {R : It → Hp → Prop} (S : SR K T B g H σ sd) (h : ((m sd).bind k).wp P (PXS K T B W))
    (hQ : ∀ J g1 H1 bx, Step g H g1 H1 → SR K T B g1 H1 σ sd → ItOk K T bx.1 J g1 H1 bx.2 → (k bx).wp P (PXS K T B W) → R J H1) : tI K T B W m σ H R :=
  ⟨g, sd, S, M.wp_mono _ ((M.wp_bind _ _ _ _).mp h) (fun x hx J g1 H1 st S1 I => hQ J g1 H1 x st S1 I hx) fun _ _ hx => hx.px⟩
/-- a name gets a list of its own -/
theorem SR.setOwn {i : Nat} {a : Addr} {xs : List PyData} (S : SR K T B g H σ sd) (o : OwnL K g H a xs) (hb : B.H a = none) (n : NotOwn σ sd a) : SR K T B g H (σ.set i (some (.ref a))) (sd.set i (some (.own xs))) := by
  have at_ : ∀ {j : Nat} {s : Slot}, (sd.set i (some (.own xs)))[j]? = some (some s) → (i = j ∧ i < sd.length ∧ s = .own xs) ∨ (i ≠ j ∧ sd[j]? = some (some s)) := fun {j s} e => by
    by_cases hj : i = j
    · subst hj
      by_cases hi : i < sd.length
      · rw [List.getElem?_set_self hi] at e
        cases e
        exact .inl ⟨rfl, hi, rfl⟩
      · rw [List.getElem?_eq_none (by rw [List.length_set]; omega)] at e
        cases e
    · rw [List.getElem?_set_ne hj] at e
      exact .inr ⟨hj, e⟩
  refine ⟨S.good, fun j s e => ?_, fun j k xs' ys b hjk e1 e2 e3 e4 => ?_, by rw [List.length_set, List.length_set]; exact S.len, S.base⟩
  · rcases at_ e with ⟨rfl, hi, rfl⟩ | ⟨hj, e⟩
    · exact ⟨.ref a, List.getElem?_set_self (by rw [← S.len]; exact hi), a, rfl, o, hb⟩
    · obtain ⟨u, e1, q⟩ := S.slots j s e
      exact ⟨u, by rw [List.getElem?_set_ne hj]; exact e1, q⟩
  · rcases at_ e1 with ⟨rfl, hi, _⟩ | ⟨hj, e1⟩
    · rcases at_ e2 with ⟨hk, _⟩ | ⟨hk, e2⟩
      · exact hjk hk
      · rw [List.getElem?_set_self (by rw [← S.len]; exact hi)] at e3
        cases e3
        rw [List.getElem?_set_ne hk] at e4
        exact n k _ e2 e4
    · rcases at_ e2 with ⟨rfl, hi, _⟩ | ⟨hk, e2⟩
      · rw [List.getElem?_set_self (by rw [← S.len]; exact hi)] at e4
        cases e4
        rw [List.getElem?_set_ne hj] at e3
        exact n j _ e1 e3
      · rw [List.getElem?_set_ne hj] at e3
        rw [List.getElem?_set_ne hk] at e4
        exact S.apart j k _ _ b hjk e1 e2 e3 e4
/-- a name is forgotten -/
theorem SR.kill {i : Nat} (S : SR K T B g H σ sd) : SR K T B g H σ (sd.set i none) := by
  have at_ : ∀ {j : Nat} {s : Slot}, (sd.set i none)[j]? = some (some s) → sd[j]? = some (some s) := fun {j s} e => by
    by_cases hj : i = j
    · subst hj
      by_cases hi : i < sd.length
      · rw [List.getElem?_set_self hi] at e
        cases e
      · rw [List.getElem?_eq_none (by rw [List.length_set]; omega)] at e
        cases e
    · rw [List.getElem?_set_ne hj] at e
      exact e
  exact ⟨S.good, fun j s e => S.slots j s (at_ e), fun j k _ _ a hjk e1 e2 => S.apart j k _ _ a hjk (at_ e1) (at_ e2), by rw [List.length_set]; exact S.len, S.base⟩
/-- a list of one's own stays as it is from now on -/
theorem SR.frz {i : Nat} {xs : List PyData} (S : SR K T B g H σ sd) (e : sd[i]? = some (some (.own xs))) : ∃ g', Mon g g' ∧ SR K T B g' H σ (sd.set i (some (.v (.p (.list xs))))) := by
  obtain ⟨v, e1, a, rfl, ⟨hz, hd, vs, e2, r⟩, hb⟩ := S.slots i _ e
  have hi : i < sd.length := by
    by_cases z : i < sd.length
    · exact z
    · rw [List.getElem?_eq_none (by omega)] at e
      cases e
  refine ⟨g.add a (.lst vs), ⟨Same.add hz, fun _ d => d⟩, S.good.fix e2 hd (fun ps z => by cases z), fun j s q => ?_, fun j k xs' ys b hjk q1 q2 => ?_, by rw [List.length_set]; exact S.len, .fix hb e2 S.good S.base hz⟩
  · by_cases hj : i = j
    · subst hj
      rw [List.getElem?_set_self hi] at q
      cases q
      exact ⟨_, e1, .p (.lst (.inl (.inl upd_same)) (r.mono (Same.add hz)))⟩
    · rw [List.getElem?_set_ne hj] at q
      obtain ⟨u, e3, q3⟩ := S.slots j s q
      refine ⟨u, e3, ?_⟩
      cases s with
      | v y => exact Rep.mono (g := g) (g' := g.add a (.lst vs)) (Same.add hz) (fun _ d => d) q3
      | thk => exact q3
      | own ys =>
        obtain ⟨b, rfl, ⟨oz, od, us, e5, r5⟩, ob⟩ := q3
        refine ⟨b, rfl, ⟨?_, od, us, e5, r5.mono (Same.add hz)⟩, ob⟩
        show upd g.Z a _ b = none
        rw [upd_ne (show b ≠ a from fun z => S.apart i j xs ys a hj e q e1 (z ▸ e3))]
        exact oz
  · have at_ : ∀ {j : Nat} {ws : List PyData}, (sd.set i (some (.v (.p (.list xs)))))[j]? = some (some (.own ws)) → sd[j]? = some (some (.own ws)) := fun {j ws} q => by
      by_cases hj : i = j
      · subst hj
        rw [List.getElem?_set_self hi] at q
        cases q
      · rw [List.getElem?_set_ne hj] at q
        exact q
    exact S.apart j k _ _ b hjk (at_ q1) (at_ q2)
/-- a result is stored at a name -/
theorem SR.store {i : Nat} {H0 : Hp} {v : V} {r : Res} {s : Slot} (S : SR K T B g H σ sd) (R : ResV K T B σ sd H0 g H v r) (e : r.slot = some s) : SR K T B g H (σ.set i (some v)) (sd.set i (some s)) := by
  cases r with
  | v x =>
    cases e
    exact S.setv R
  | l fr xs =>
    cases fr with
    | false => cases e
    | true =>
      cases e
      obtain ⟨a, rfl, o, hb, n⟩ := R
      exact S.setOwn o hb (n rfl).1
end

section
variable {T : Tab} {X : Cx} {W : WX} {B : Bs} {pos : Pos}
theorem es_nil : ESs T X W B [] fun s => .ret (.nx, s) := by
  refine ⟨fun pins s σ H D I h => ?_⟩
  obtain ⟨g, sd, S, hw⟩ := h
  exact pss_nil.run pins s σ H D I ((show PF X.K T B D g (.nx, sd) from hw) σ g H .refl S)
theorem es_cons {st : Stmt} {rest : List Stmt} {m1 m2 : Sl → M (Fl × Sl)} (h1 : ES T X W B st m1) (h2 : ESs T X W B rest m2) : ESs T X W B (st :: rest) (seqM m1 m2) := by
  refine ⟨fun pins s σ H D I h => ?_⟩
  obtain ⟨g, sd, S, hw⟩ := h
  refine (pss_cons h1 h2).run pins s σ H D I ⟨g, sd, S, M.wp_mono _ ((M.wp_bind _ _ _ _).mp hw) (fun f hf => ?_) fun _ _ x => x⟩
  obtain ⟨f, s1⟩ := f
  cases f with
  | nx => exact fun σ' g' H' m S' => ⟨g', s1, S', wkF hf m⟩
  | brk => exact hf
  | cont => exact hf
  | ret r => exact hf
/-- what is not Python: a list is fixed, a name forgotten -/
theorem es_frz {i : Nat} {rest : List Stmt} {m : Sl → M (Fl × Sl)} (h : ESs T X W B rest m) : ESs T X W B rest (frzM i m) := by
  refine ⟨fun pins s σ H D I hh => ?_⟩
  obtain ⟨g, sd, S, hw⟩ := hh
  unfold frzM at hw
  split at hw
  · rename_i xs e
    obtain ⟨g', m, S'⟩ := S.frz e
    exact h.run pins s σ H D I ⟨g', _, S', wkF hw m⟩
  · exact h.run pins s σ H D I ⟨g, _, S, hw⟩
theorem es_kill {i : Nat} {rest : List Stmt} {m : Sl → M (Fl × Sl)} (h : ESs T X W B rest m) : ESs T X W B rest (killM i m) := by
  refine ⟨fun pins s σ H D I hh => ?_⟩
  obtain ⟨g, sd, S, hw⟩ := hh
  exact h.run pins s σ H D I ⟨g, _, S.kill, hw⟩
/-! ### stores -/
theorem es_set {i : Nat} {x : Str} {e : Expr} {m : Sl → M Res} {p : Pos} (hN : X.N.Nodup) (hi : X.N[i]? = some x) (hx : Loc X.env.scope x) (hf : X.fn x = true ∨ X.env.scope.names.lookup x = some .local) (h : EE T X W B e m) (hs : swapsWith e (some (.Name x p)) pos.line X.env = pure false) :
    ES T X W B (.Assign [.Name x p] e pos) (setM i m) := by
  refine ⟨fun pins s σ H D I hh => ?_⟩
  obtain ⟨g, sd, S, hw⟩ := hh
  refine (ps_set hN hi hx h hs hf).run pins s σ H D I ?_
  refine tE.st S hw fun v g1 H1 r st S1 R hk => ?_
  obtain ⟨s', e', hk⟩ := wp_ofOpt hk
  exact (show PF X.K T B D g (.nx, sd.set i (some s')) from hk) _ g1 H1 st.mon (S1.store R e')
theorem es_setLc {i : Nat} {m : Sl → M Res} {st : Stmt} (h : PS X st (tAsg (tE X.K T B W m) (gName i))) : ES T X W B st (setM i m) := by
  refine ⟨fun pins s σ H D I hh => ?_⟩
  obtain ⟨g, sd, S, hw⟩ := hh
  refine h.run pins s σ H D I ?_
  refine tE.st S hw fun v g1 H1 r st S1 R hk => ?_
  obtain ⟨s', e', hk⟩ := wp_ofOpt hk
  exact (show PF X.K T B D g (.nx, sd.set i (some s')) from hk) _ g1 H1 st.mon (S1.store R e')
theorem es_unp {is : List Nat} {tg e : Expr} {m : Sl → M Res} (hg : EG X tg (.names is)) (h : EE T X W B e m) (hs : swapsWithSole [tg] e pos.line X.env = pure false) (hw' : swappedStores [tg] e X.env = pure none) (h1 : (assignEach [tg] X.env).map (·.2) = [assign tg X.env]) :
    ES T X W B (.Assign [tg] e pos) (unpM is m) := by
  refine ⟨fun pins s σ H D I hh => ?_⟩
  obtain ⟨g, sd, S, hw⟩ := hh
  refine (ps_asg h hg hs hw' h1).run pins s σ H D I ?_
  refine tE.st S hw fun v g1 H1 r st S1 R hk => ?_
  obtain ⟨x, e', hk⟩ := wp_ofOpt hk
  obtain ⟨sd', e2, hk⟩ := wp_ofOpt hk
  have hk : PF X.K T B D g (.nx, sd') := hk
  obtain ⟨g2, st2, S2, rx⟩ := R.hand S1 st e'
  exact tgR_ok (T := T) S2.good.zs rx e2 fun vs ys rv hl es => hk _ g2 H1 st2.mon (S2.setMany rv es).1
theorem es_unpg {ts : List GT} {tg e : Expr} {m : Sl → M Res} (hg : EG X tg (.nest ts)) (h : EE T X W B e m) (hs : swapsWithSole [tg] e pos.line X.env = pure false) (hw' : swappedStores [tg] e X.env = pure none) (h1 : (assignEach [tg] X.env).map (·.2) = [assign tg X.env]) :
    ES T X W B (.Assign [tg] e pos) (unpgM ts m) := by
  refine ⟨fun pins s σ H D I hh => ?_⟩
  obtain ⟨g, sd, S, hw⟩ := hh
  refine (ps_asg h hg hs hw' h1).run pins s σ H D I ?_
  refine tE.st S hw fun v g1 H1 r st S1 R hk => ?_
  obtain ⟨x, e', hk⟩ := wp_ofOpt hk
  obtain ⟨sd', e2, hk⟩ := wp_ofOpt hk
  have hk : PF X.K T B D g (.nx, sd') := hk
  obtain ⟨g2, st2, S2, rx⟩ := R.hand S1 st e'
  exact tgR_ok (T := T) S2.good.zs rx e2 fun vs ys rv hl es => hk _ g2 H1 st2.mon (S2.setMany rv es).1
theorem setRes_ok {K : PySem.W.Frag} {g : Gh} {H H0 : Hp} : ∀ {is : List Nat} {vs : List V} {rs : List Res} {σ : L2.St} {sd sd' : Sl}, SR K T B g H σ sd → ResVs K T B σ sd H0 g H vs rs → is.Nodup → setRes is rs sd = some sd' → SR K T B g H (setV is vs σ) sd'
  | [], _, _, _, _, _, S, .nil, _, e => by
    cases e
    exact S
  | _ :: _, [], [], _, _, _, _, .nil, _, e => by cases e
  | i :: is, v :: vs, r :: rs, σ, sd, sd', S, .cons h t n, nd, e => by
    show SR K T B g H (setV is vs (σ.set i (some v))) sd'
    obtain ⟨s, e1, e2⟩ := Option.bind_eq_some_iff.mp (show r.slot.bind (fun s => setRes is rs (sd.set i (some s))) = some sd' from e)
    obtain ⟨ni, nd⟩ := List.nodup_cons.mp nd
    refine setRes_ok (S.store h e1) (?_ : ResVs K T B (σ.set i (some v)) (sd.set i (some s)) H0 g H vs rs) nd e2
    have key : ∀ {us : List V} {qs : List Res}, ResVs K T B σ sd H0 g H us qs → (∀ (j : Nat) ys, qs[j]? = some (.l true ys) → ∀ a xs, s = .own xs → v = .ref a → us[j]? ≠ some (.ref a)) → ResVs K T B (σ.set i (some v)) (sd.set i (some s)) H0 g H us qs := by
      intro us
      induction us with
      | nil =>
        intro qs R _
        cases R
        exact .nil
      | cons u us ih =>
        intro qs R hd
        cases R with
        | @cons _ _ q qs h' t' n' =>
          refine .cons ?_ (ih t' fun j ys e a xs es ev => ?_) n'
          · cases q with
            | v y => exact h'
            | l fr ys =>
              obtain ⟨b, rfl, o, hb, m⟩ := h'
              refine ⟨b, rfl, o, hb, fun hfr => ⟨fun j zs q1 q2 => ?_, (m hfr).2⟩⟩
              subst hfr
              by_cases hj : i = j
              · subst hj
                have hi : i < sd.length := by
                  by_cases z : i < sd.length
                  · exact z
                  · rw [List.getElem?_eq_none (by rw [List.length_set]; omega)] at q1
                    cases q1
                rw [List.getElem?_set_self hi] at q1
                rw [List.getElem?_set_self (by rw [← S.len]; exact hi)] at q2
                cases q1
                cases q2
                exact hd 0 ys rfl b zs rfl rfl rfl
              · rw [List.getElem?_set_ne hj] at q1 q2
                exact (m rfl).1 j zs q1 q2
          · exact hd (j + 1) ys (by simpa using e) a xs es ev
    refine key t fun j ys eq0 a xs es ev => ?_
    subst es
    subst ev
    cases r with
    | v y => cases e1
    | l fr zs =>
      cases fr with
      | false => cases e1
      | true =>
        cases e1
        exact n a _ rfl rfl j ys eq0
theorem ResVs.len {K : PySem.W.Frag} {T : Tab} {B : Bs} {σ : L2.St} {sd : Sl} {g : Gh} {H H0 : Hp} : ∀ {vs : List V} {rs : List Res}, ResVs K T B σ sd H0 g H vs rs → vs.length = rs.length
  | _, _, .nil => rfl
  | _, _, .cons _ t _ => congrArg (· + 1) (ResVs.len t)
theorem setRes_len : ∀ {is : List Nat} {rs : List Res} {sd sd' : Sl}, setRes is rs sd = some sd' → rs.length = is.length
  | [], [], _, _, _ => rfl
  | i :: is, r :: rs, sd, sd', e => by
    obtain ⟨s, _, e2⟩ := Option.bind_eq_some_iff.mp (show r.slot.bind (fun s => setRes is rs (sd.set i (some s))) = some sd' from e)
    exact congrArg (· + 1) (setRes_len e2)
  | [], _ :: _, _, _, e => by cases e
  | _ :: _, [], _, _, e => by cases e
/-- a, b = x, y where a tuple is made and taken apart: what is stored may be lists that nobody else holds -/
theorem es_parT {is : List Nat} {tg : Expr} {vs : List Expr} {k : Nat} {p : Pos} {m : Sl → M (List Res)} (hg : EG X tg (.names is)) (h : ER T X W B vs m) (nd : is.Nodup) (hz : is.length ≤ 16777216) (hs : swapsWithSole [tg] (.Tuple vs k p) pos.line X.env = pure false) (hw' : swappedStores [tg] (.Tuple vs k p) X.env = pure none)
    (h1 : (assignEach [tg] X.env).map (·.2) = [assign tg X.env]) : ES T X W B (.Assign [tg] (.Tuple vs k p) pos) (parM is m) := by
  refine ⟨fun pins s σ H D I hh => ?_⟩
  obtain ⟨g, sd, S, hw⟩ := hh
  refine (ps_asg (pe_tup h) hg hs hw' h1).run pins s σ H D I ?_
  refine tR.st S hw fun us g1 H1 rs st S1 R hk => ?_
  obtain ⟨sd', e, hk⟩ := wp_ofOpt hk
  have hq : PF X.K T B D g (.nx, sd') := hk
  have hl : us.length = is.length := R.len.trans (setRes_len e)
  refine ⟨by rw [hl, sizeLine_eq]; exact hz, fun q nq => ?_⟩
  have st2 : Step g1 H1 g1 (upd H1 q (.tup us)) := .lay nq
  have S3 := setRes_ok (S1.lay nq fun ps z => by cases z) (R.step st2) nd e
  exact .inl ⟨q, us, rfl, .inl (.inl upd_same), hl, gNames_ok hl (hq _ g1 _ (st.trans st2).mon S3)⟩
theorem es_par2 {i j : Nat} {x y : Str} {a b : Expr} {m : Sl → M (List Res)} {px py pt : Pos} {kt k2 : Nat} {pt2 : Pos} (hc : X.calm = true) (hN : X.N.Nodup) (hi : X.N[i]? = some x) (hj : X.N[j]? = some y) (hij : i ≠ j)
    (hx : X.env.scope.names.lookup x = some .local) (hy : X.env.scope.names.lookup y = some .local) (h : ER T X W B [a, b] m) (hw' : swappedStores [.Tuple [.Name x px, .Name y py] kt pt] (.Tuple [a, b] k2 pt2) X.env = pure (some [x, y])) :
    ES T X W B (.Assign [.Tuple [.Name x px, .Name y py] kt pt] (.Tuple [a, b] k2 pt2) pos) (parM [i, j] m) := by
  refine ⟨fun pins s σ H D I hh => ?_⟩
  obtain ⟨g, sd, S, hw⟩ := hh
  refine (ps_par hc hN hi hj hij hx hy h hw').run pins s σ H D I ?_
  refine tR.st S hw fun vs g1 H1 rs st S1 R hk => ?_
  obtain ⟨sd', e, hk⟩ := wp_ofOpt hk
  have hq : PF X.K T B D g (.nx, sd') := hk
  have S2 := setRes_ok S1 R (by simp [hij]) e
  match rs, R, e, S2 with
  | [r1, r2], .cons (v := v) _ (.cons (v := u) _ .nil _) _, e, S2 => exact ⟨v, u, rfl, hq _ g1 H1 st.mon S2⟩
  | [], _, e, _ => cases e
  | [r1], _, e, _ =>
    cases z : r1.slot with
    | none => simp [setRes, z] at e
    | some s => simp [setRes, z] at e
  | r1 :: r2 :: r3 :: rs, _, e, _ =>
    cases z : r1.slot with
    | none => simp [setRes, z] at e
    | some s =>
      cases z2 : r2.slot with
      | none => simp [setRes, z, z2] at e
      | some s => simp [setRes, z, z2] at e
theorem es_par3 {i j l : Nat} {x y z : Str} {a b c : Expr} {m : Sl → M (List Res)} {px py pz pt : Pos} {kt k2 : Nat} {pt2 : Pos} (hc : X.calm = true) (hN : X.N.Nodup) (hi : X.N[i]? = some x) (hj : X.N[j]? = some y) (hl : X.N[l]? = some z) (hij : i ≠ j) (hil : i ≠ l) (hjl : j ≠ l)
    (hx : X.env.scope.names.lookup x = some .local) (hy : X.env.scope.names.lookup y = some .local) (hz : X.env.scope.names.lookup z = some .local) (h : ER T X W B [a, b, c] m)
    (hw' : swappedStores [.Tuple [.Name x px, .Name y py, .Name z pz] kt pt] (.Tuple [a, b, c] k2 pt2) X.env = pure (some [x, y, z])) :
    ES T X W B (.Assign [.Tuple [.Name x px, .Name y py, .Name z pz] kt pt] (.Tuple [a, b, c] k2 pt2) pos) (parM [i, j, l] m) := by
  refine ⟨fun pins s σ H D I hh => ?_⟩
  obtain ⟨g, sd, S, hw⟩ := hh
  refine (ps_par3 hc hN hi hj hl hij hil hjl hx hy hz h hw').run pins s σ H D I ?_
  refine tR.st S hw fun vs g1 H1 rs st S1 R hk => ?_
  obtain ⟨sd', e, hk⟩ := wp_ofOpt hk
  have hq : PF X.K T B D g (.nx, sd') := hk
  have S2 := setRes_ok S1 R (by simp [hij, hil, hjl]) e
  match rs, R, e, S2 with
  | [r1, r2, r3], .cons (v := v) _ (.cons (v := u) _ (.cons (v := t) _ .nil _) _) _, e, S2 => exact ⟨v, u, t, rfl, hq _ g1 H1 st.mon S2⟩
  | [], _, e, _ => cases e
  | [r1], _, e, _ =>
    cases z : r1.slot with
    | none => simp [setRes, z] at e
    | some s => simp [setRes, z] at e
  | [r1, r2], _, e, _ =>
    cases z : r1.slot with
    | none => simp [setRes, z] at e
    | some s =>
      cases z2 : r2.slot with
      | none => simp [setRes, z, z2] at e
      | some s => simp [setRes, z, z2] at e
  | r1 :: r2 :: r3 :: r4 :: rs, _, e, _ =>
    cases z : r1.slot with
    | none => simp [setRes, z] at e
    | some s =>
      cases z2 : r2.slot with
      | none => simp [setRes, z, z2] at e
      | some s =>
        cases z3 : r3.slot with
        | none => simp [setRes, z, z2, z3] at e
        | some s => simp [setRes, z, z2, z3] at e
end
end Rf

set_option Elab.async false
set_option linter.all false
set_option maxRecDepth 100000
set_option maxHeartbeats 1000000
/-! R11: further statements, loops. -/
namespace Rf
open PySem PySem.Spec PyProof.Rows L2
section
variable {T : Tab} {X : Cx} {W : WX} {B : Bs} {pos : Pos}
theorem es_bad {st : Stmt} : ES T X W B st fun _ => .stuck := by
  refine ⟨fun pins s σ H D I h => ?_⟩
  obtain ⟨g, sd, S, hw⟩ := h
  exact False.elim hw
theorem ee_bad {e : Expr} : EE T X W B e fun _ => .stuck := by
  refine ⟨fun pins s σ H Q I h => ?_⟩
  obtain ⟨g, sd, S, hw⟩ := h
  exact False.elim hw
theorem es_pass : ES T X W B (.Pass pos) fun s => .ret (.nx, s) := by
  refine ⟨fun pins s σ H D I h => ?_⟩
  obtain ⟨g, sd, S, hw⟩ := h
  exact ps_pass.run pins s σ H D I ((show PF X.K T B D g (.nx, sd) from hw) σ g H .refl S)
theorem es_doc {x : Str} {j : Nat} {p p' : Pos} : ES T X W B (.Expr (.Constant (.str x) j p) p') fun s => .ret (.nx, s) := by
  refine ⟨fun pins s σ H D I h => ?_⟩
  obtain ⟨g, sd, S, hw⟩ := h
  exact ps_doc.run pins s σ H D I ((show PF X.K T B D g (.nx, sd) from hw) σ g H .refl S)
theorem es_brk : ES T X W B (.Break pos) fun s => .ret (.brk, s) := by
  refine ⟨fun pins s σ H D I h => ?_⟩
  obtain ⟨g, sd, S, hw⟩ := h
  exact ps_break.run pins s σ H D I ((show PF X.K T B D g (.brk, sd) from hw) σ g H .refl S)
theorem es_cont : ES T X W B (.Continue pos) fun s => .ret (.cont, s) := by
  refine ⟨fun pins s σ H D I h => ?_⟩
  obtain ⟨g, sd, S, hw⟩ := h
  exact ps_continue.run pins s σ H D I ((show PF X.K T B D g (.cont, sd) from hw) σ g H .refl S)
theorem es_retN : ES T X W B (.Return none pos) fun s => .ret (.ret (.v (.p .none)), s) := by
  refine ⟨fun pins s σ H D I h => ?_⟩
  obtain ⟨g, sd, S, hw⟩ := h
  exact ps_retN.run pins s σ H D I ((show PF X.K T B D g (.ret (.v (.p .none)), sd) from hw) .non σ g H .refl S (.p .non))
theorem ResV.resR {σ : L2.St} {sd : Sl} {H0 H : Hp} {g : Gh} {v : V} {r : Res} (h : ResV X.K T B σ sd H0 g H v r) : ResR X.K T B g H v r := by
  cases r with
  | v x => exact h
  | l fr xs =>
    obtain ⟨a, e, o, b, _⟩ := h
    exact ⟨a, e, o, b⟩
theorem es_ret {e : Expr} {m : Sl → M Res} (h : EE T X W B e m) : ES T X W B (.Return (some e) pos) (retM m) := by
  refine ⟨fun pins s σ H D I hh => ?_⟩
  obtain ⟨g, sd, S, hw⟩ := hh
  refine (ps_ret h).run pins s σ H D I ?_
  exact tE.st S hw fun v g1 H1 r st S1 R hk => (show PF X.K T B D g (.ret r, sd) from hk) v σ g1 H1 st.mon S1 R.resR
theorem es_expr {e : Expr} {m : Sl → M Res} (h : EE T X W B e m) (hs : swapsWith e none pos.line X.env = pure false) : ES T X W B (.Expr e pos) (exprM m) := by
  refine ⟨fun pins s σ H D I hh => ?_⟩
  obtain ⟨g, sd, S, hw⟩ := hh
  refine (ps_expr h hs).run pins s σ H D I ?_
  exact tE.st S hw fun v g1 H1 r st S1 R hk => (show PF X.K T B D g (.nx, sd) from hk) σ g1 H1 st.mon S1
theorem es_iff {c : Expr} {a b : List Stmt} {mc : Sl → M Bool} {m1 m2 : Sl → M (Fl × Sl)} (hc : ET T X W B c mc) (h1 : ESs T X W B a m1) (h2 : ESs T X W B b m2) : ES T X W B (.If c a b pos) (iffM mc m1 m2) := by
  refine ⟨fun pins s σ H D I hh => ?_⟩
  obtain ⟨g, sd, S, hw⟩ := hh
  refine (ps_if hc h1 h2).run pins s σ H D I ?_
  refine tT.st S hw fun k g1 H1 st S1 hk => ?_
  cases k with
  | true => exact ⟨g1, sd, S1, wkF hk st.mon⟩
  | false => exact ⟨g1, sd, S1, wkF hk st.mon⟩
/-! ### loops -/
def endsL (Nx : L2.St → Hp → Prop) (D : Ends) : Ends := { D with nx := Nx, ct := Nx, bk := D.nx }
theorem es_whl {c : Expr} {b : List Stmt} {mc : Sl → M Bool} {m : Sl → M (Fl × Sl)} {n : Nat} (hp : PassesOwn (model X.prog X.w) X.A X.env X.xe) (hc : ET T X W B c mc) (hb : ESs T X W B b m) : ES T X W B (.While c b [] pos) (whileF mc m n) := by
  refine ⟨fun pins s σ H D I hh => ?_⟩
  obtain ⟨g, sd, S, hw⟩ := hh
  refine (ps_while hp hc hb).run pins s σ H D I ⟨fun j σ H => ∃ g1 sd1, Mon g g1 ∧ SR X.K T B g1 H σ sd1 ∧ (whileF mc m j sd1).wp (PF X.K T B D g1) (PXS X.K T B W), ⟨n, g, sd, .refl, S, hw⟩, fun j σ1 H1 ⟨g1, sd1, m1, S1, hw1⟩ => ?_⟩
  cases j with
  | zero => exact False.elim hw1
  | succ j =>
    refine tT.st S1 hw1 fun k g2 H2 st S2 hk => ?_
    cases k with
    | false =>
      rw [if_neg Bool.false_ne_true]
      exact (show PF X.K T B D g1 (.nx, sd1) from hk) σ1 g2 H2 st.mon S2
    | true =>
      rw [if_pos rfl]
      refine ⟨fun σ' H' => ∃ g3 sd3, Mon g g3 ∧ SR X.K T B g3 H' σ' sd3 ∧ (whileF mc m j sd3).wp (PF X.K T B D g3) (PXS X.K T B W), fun σ' H' q => ⟨j, Nat.lt_succ_self _, q⟩, g2, sd1, S2, ?_⟩
      refine M.wp_mono _ ((M.wp_bind _ _ _ _).mp hk) (fun f hf => ?_) fun _ _ x => x
      obtain ⟨f, s3⟩ := f
      have hf := wkF hf st.mon
      cases f with
      | nx => exact fun σ' g' H' m' S' => ⟨g', s3, (m1.trans st.mon).trans m', S', wkF hf m'⟩
      | cont => exact fun σ' g' H' m' S' => ⟨g', s3, (m1.trans st.mon).trans m', S', wkF hf m'⟩
      | brk => exact fun σ' g' H' m' S' => (show PF X.K T B D g2 (.nx, s3) from hf) σ' g' H' m' S'
      | ret r => exact fun v σ' g' H' m' S' R => (show PF X.K T B D g2 (.ret r, s3) from hf) v σ' g' H' m' S' R
theorem es_for {tg iter : Expr} {b : List Stmt} {gt : G} {mi : Sl → M (Bool × List Val)} {m : Sl → M (Fl × Sl)} (hp : PassesOwn (model X.prog X.w) X.A X.env X.xe) (hc : X.calm = true) (hi : EI T X W B tg iter mi) (hg : EG X tg gt) (hb : ESs T X W B b m) (hs : ∀ x, foldedSetIterable iter X.env x = pure x) :
    ES T X W B (.For tg iter b [] pos) (forM gt mi m) := by
  refine ⟨fun pins s σ H D I hh => ?_⟩
  obtain ⟨g, sd, S, hw⟩ := hh
  refine (ps_for hp hc hi hg hb hs).run pins s σ H D I ?_
  refine tI.st S hw fun J g1 H1 bx st S1 it hk => ?_
  obtain ⟨hb1, hk⟩ := wp_guard hk
  have hb1 : bx.1 = false := by simpa using hb1
  rw [hb1] at it
  obtain ⟨Gw, Y, wk, hG, hY⟩ := it.ex
  refine ⟨fun i j σ H => j = bx.2.length - i ∧ i ≤ bx.2.length ∧ ∃ g2 sd2, Mon g1 g2 ∧ SR X.K T B g2 H σ sd2 ∧ (forF gt m (bx.2.drop i) sd2).wp (PF X.K T B D g2) (PXS X.K T B W), ⟨_, rfl, Nat.zero_le _, g1, sd, .refl, S1, wkF hk st.mon⟩, fun i j σ2 H2 ⟨ej, hi, g2, sd2, m2, S2, hw2⟩ => ?_⟩
  have later : Later T false g1 H1 g2 H2 := ⟨S2.good, m2.1, m2.2, fun z => by cases z⟩
  by_cases hl : i < bx.2.length
  · refine .inr ⟨wk.goes i H2 hl (hG _ _ later), fun σ' H' => ∃ g3 sd3, Mon g1 g3 ∧ SR X.K T B g3 H' σ' sd3 ∧ (forF gt m (bx.2.drop (i + 1)) sd3).wp (PF X.K T B D g3) (PXS X.K T B W), fun σ' H' ⟨g3, sd3, m3, S3, q⟩ => ⟨bx.2.length - (i + 1), by omega, rfl, hl, g3, sd3, m3, S3, q⟩, fun x H3 hy => ?_⟩
    obtain ⟨z, g3, ez, st3, G3, rz⟩ := hY i g2 H2 x H3 hl later (wk.yields i H2 x H3 hl (hG _ _ later) hy)
    have ed : bx.2.drop i = z :: bx.2.drop (i + 1) := by
      rw [List.drop_eq_getElem_cons hl]
      rw [List.getElem?_eq_getElem hl] at ez
      rw [Option.some.inj ez]
    rw [ed] at hw2
    obtain ⟨sd3, ep, hw3⟩ := wp_ofOpt hw2
    refine tgR_ok (T := T) G3.zs rz ep fun vs ys rv hvl es => ?_
    obtain ⟨S4, _⟩ := (S2.step st3 G3).setMany rv es
    refine ⟨g3, sd3, S4, M.wp_mono _ ((M.wp_bind _ _ _ _).mp hw3) (fun f hf => ?_) fun _ _ x => x⟩
    obtain ⟨f, s5⟩ := f
    have hf := wkF hf st3.mon
    cases f with
    | nx => exact fun σ' g' H' m' S' => ⟨g', s5, (m2.trans st3.mon).trans m', S', wkF hf m'⟩
    | cont => exact fun σ' g' H' m' S' => ⟨g', s5, (m2.trans st3.mon).trans m', S', wkF hf m'⟩
    | brk => exact fun σ' g' H' m' S' => (show PF X.K T B D g3 (.nx, s5) from hf) σ' g' H' m' S'
    | ret r => exact fun v σ' g' H' m' S' R => (show PF X.K T B D g3 (.ret r, s5) from hf) v σ' g' H' m' S' R
  · have e : i = bx.2.length := by omega
    subst e
    rw [List.drop_length] at hw2
    exact .inl ⟨wk.stops H2 (hG _ _ later), (show PF X.K T B D g2 (.nx, sd2) from hw2) σ2 g2 H2 .refl S2⟩
end
end Rf

set_option Elab.async false
set_option linter.all false
set_option maxRecDepth 100000
set_option maxHeartbeats 1000000
/-! R12: a op= b, append, raise. -/
namespace Rf
open PySem PySem.Spec PyProof.Rows L2
section
variable {P : Program} {w : World} {A : Around} {E : Value → Shared → Prop} {s : Shared}
theorem ext_raw {l b : Addr} {as bs : Array Value} {n k : Nat} {o : Obj} {Q : Value → Shared → Prop} (e : s.heap.get? l = some { cls := .type "list", data := .seq as n }) (eo : s.heap.get? b = some o) (oc : o.cls = .type "list" ∨ o.cls = .type "tuple") (od : o.data = .seq bs k) (hz : as.size + bs.size ≤ sizeLine)
    (hQ : Q .none { s with heap := s.heap.update l (Obj.mapSeq fun x => x ++ bs) }) : wpAny (model P w) A (call (.builtin "list.extend") [.ref l, .ref b]) Q E s := by
  refine wpAny_call_entry PySem.F.slot_list_extend ⟨_, e, rfl⟩ PySem.F.entry_list_extend ?_ (PySem.F.args_list_extend_2 _ _)
  show wpAny _ _ (Builtin.List.listExtendWith (.ref l) (.ref b) .none) _ _ s
  unfold Builtin.List.listExtendWith
  have nl : ¬ (!as.isEmpty && Builtin.List.listTooLong (as.size + bs.size)) = true := by
    rw [notLongL hz, Bool.and_false]
    exact Bool.false_ne_true
  have rest : wpAny (model P w) A.in1 (do
      let xs ← Builtin.List.listItems (.ref b)
      let mine ← Builtin.List.listItems (.ref l)
      if !mine.isEmpty && Builtin.List.listTooLong (mine.size + xs.size) then unsupported "list.extend:memory"
      Builtin.List.listUpdate (.ref l) (· ++ xs)
      return ← ret .none) (fun fin s' => ∃ v, fin = .done (.ret v) ∧ Q v s') E s := by
    unfold Builtin.List.listItems
    refine wpAny_bind (wpAny_bind (wpAny_seqItems eo od (wpAny_pure (wpAny_bind (wpAny_bind (wpAny_seqItems e rfl (wpAny_pure ?_)))))))
    rw [if_neg nl]
    show wpAny _ _ (updateSeq l (· ++ bs) >>= fun _ => ret .none) _ _ _
    have zs : (as ++ bs).size ≤ sizeLine + 1 := by
      rw [Array.size_append]
      omega
    exact wpAny_bind (wpAny_updateSeq (f := fun x => x ++ bs) e rfl (wpAny_pure ⟨_, rfl, hQ⟩) (by omega) zs)
  rcases oc with oc | oc
  · refine wpAny_bind (wpAny_typeOf (T := "list") ⟨_, eo, oc⟩ ?_)
    have c : (Builtin.List.listSameRef (.ref l) (.ref b) || Value.type "list" == Value.type "list" || Value.type "list" == Value.type "tuple") = true := by simp
    rw [if_pos c]
    exact rest
  · refine wpAny_bind (wpAny_typeOf (T := "tuple") ⟨_, eo, oc⟩ ?_)
    have c : (Builtin.List.listSameRef (.ref l) (.ref b) || Value.type "tuple" == Value.type "list" || Value.type "tuple" == Value.type "tuple") = true := by simp
    rw [if_pos c]
    exact rest
end
def rExt (K : PySem.W.Frag) : V → List V → Hp → VK → Prop := fun x vs H Q => ∃ l b xs zs, x = .ref l ∧ vs = [.ref b] ∧ H l = some (.lst xs) ∧ (SqL K H b zs ∨ SqT K H b zs) ∧ xs.length + zs.length ≤ sizeLine ∧ Q .non (upd H l (.lst (xs ++ zs)))
theorem mt_ext {X : Cx} : MtM X "list.extend" (rExt X.K) := by
  intro pins s σ H x vs v us Q I rx rv h
  obtain ⟨l, b, xs, zs, rfl, rfl, hl, hb, hz, q⟩ := h
  cases rx
  obtain ⟨u, rfl, ru⟩ := rv.one
  cases ru
  obtain ⟨z, is, n, r, lz, e⟩ := I.lstM hl
  obtain ⟨js, r2, o, k, e2, oc, od⟩ : ∃ (js : List Value), Vals zs js ∧ ∃ o k, s.heap.get? b = some o ∧ (o.cls = .type "list" ∨ o.cls = .type "tuple") ∧ o.data = .seq js.toArray k := by
    rcases hb with hb | hb
    · obtain ⟨js, r2, ⟨o, k, e2, c, _, d⟩, _⟩ := I.list hb
      exact ⟨js, r2, o, k, e2, .inl c, d⟩
    · obtain ⟨js, r2, ⟨o, e2, c, k, d⟩, _⟩ := I.tuple hb
      exact ⟨js, r2, o, k, e2, .inr c, d⟩
  have l1 := r.length
  have l2 := r2.length
  refine ext_raw e e2 oc od (by rw [List.size_toArray, List.size_toArray]; omega) ?_
  refine ⟨.non, _, I.lset (its' := is ++ js) hl e (by simp) (r.append r2) ?_, rfl, q⟩
  rw [List.length_append]
  omega
section
variable {T : Tab} {X : Cx} {W : WX} {B : Bs} {pos : Pos}
def ipOf (o : Bop) : TIp := fun x y H Q => ∃ i j z, x = .int i ∧ y = .int j ∧ intOp o i j = .ret z ∧ Q (.int z) H
theorem guard_ret {α : Type} {b : Bool} {m : M α} {z : α} (h : M.guard b m = .ret z) : b = true ∧ m = .ret z := by
  cases b with
  | false => cases h
  | true => exact ⟨rfl, h⟩
theorem ip_of {o : Bop} (ho : o ≠ .pow) : PIp X (opOf o) (ipOf o) := by
  intro pins s σ H x y v u Q I rx ry h
  obtain ⟨i, j, z, rfl, rfl, hz, q⟩ := h
  obtain ⟨t, rfl⟩ := rx
  obtain ⟨t', rfl⟩ := ry
  have fin : ∀ {y : Int}, z = y → EP X pins σ Q (.int y s.toks) { s with toks := s.toks + 1 } := fun e => by
    subst e
    exact ⟨.int z, H, I.tok _, ⟨_, rfl⟩, q⟩
  cases o with
  | add =>
    cases hz
    exact iadd_int (fin rfl)
  | sub =>
    cases hz
    exact isub_int (fin rfl)
  | mul =>
    obtain ⟨h1, h2⟩ := guard_ret hz
    cases h2
    rcases Bool.or_eq_true _ _ ▸ h1 with hz | hz
    · have hz := of_decide_eq_true hz
      have hc : CMulW i j := hz
      exact imul_int (fin rfl) hc.ok
    · have hz := of_decide_eq_true hz
      have hc : CMul i j := .inl ⟨by omega, by omega⟩
      exact imul_int (fin rfl) hc.ok
  | fdiv =>
    obtain ⟨h1, h2⟩ := guard_ret hz
    cases h2
    simp only [Bool.and_eq_true, Bool.or_eq_true, decide_eq_true_eq, bne_iff_ne, ne_eq] at h1
    obtain ⟨h0, h1 | ⟨h1, h2⟩⟩ := h1
    · exact ifloordiv_int h0 (fin rfl) (.inl (PyProof.noPylong_small h1))
    · exact ifloordiv_int h0 (fin rfl) (.inl (PyProof.noPylong_of_log2 h2))
  | mod =>
    obtain ⟨h1, h2⟩ := guard_ret hz
    cases h2
    exact imod_int (by simpa using h1) (fin rfl)
  | pow => exact absurd rfl ho
theorem guard_wp {α : Type} {b : Bool} {w : Int} {k : Int → M α} {P : α → Prop} {E : Nat → Option PyData → Prop} (h : ((M.guard b (.ret w)).bind k).wp P E) : M.guard b (.ret w) = .ret w ∧ (k w).wp P E := by
  cases b with
  | false => exact False.elim h
  | true => exact ⟨rfl, h⟩
theorem intOp_ret {o : Bop} {a b : Int} {α : Type} {k : Int → M α} {P : α → Prop} {E : Nat → Option PyData → Prop} (h : ((intOp o a b).bind k).wp P E) : ∃ z, intOp o a b = .ret z ∧ (k z).wp P E := by
  cases o with
  | add => exact ⟨_, rfl, h⟩
  | sub => exact ⟨_, rfl, h⟩
  | mul => exact ⟨_, guard_wp h⟩
  | fdiv => exact ⟨_, guard_wp h⟩
  | mod => exact ⟨_, guard_wp h⟩
  | pow => exact ⟨_, guard_wp h⟩
theorem es_aug {i : Nat} {x : Str} {e : Expr} {o : Bop} {m : Sl → M Res} {p : Pos} (ho : o ≠ .pow) (hN : X.N.Nodup) (hi : X.N[i]? = some x) (hx : Loc X.env.scope x) (hf : X.fn x = true ∨ X.env.scope.names.lookup x = some .local) (h : EE T X W B e m) :
    ES T X W B (.AugAssign (.Name x p) (opOf o) e pos) (augM i o m) := by
  refine ⟨fun pins s σ H D I hh => ?_⟩
  obtain ⟨g, sd, S, hw⟩ := hh
  refine (ps_aug hN hi hx h (ip_of ho) hf).run pins s σ H D I ?_
  obtain ⟨a, ea, hw⟩ := wp_ofOpt hw
  unfold intAt at ea
  split at ea
  · rename_i a' e1
    cases ea
    obtain ⟨v, e2, q⟩ := S.slots i _ e1
    have eV : v = .int a := ResV.int (X := X) (B := B) (σ := σ) (sd := sd) (H0 := H) (H := H) (g := g) (x := .v (.p (.int a))) q rfl
    refine ⟨v, e2, tE.st S hw fun u g1 H1 r st S1 R hk => ?_⟩
    obtain ⟨b, eb, hk⟩ := wp_ofOpt hk
    obtain ⟨z, ez, hk⟩ := intOp_ret hk
    have hk : PF X.K T B D g (.nx, sd.set i (some (.v (.p (.int z))))) := hk
    exact ⟨a, b, z, eV, R.int eb, ez, hk _ g1 H1 st.mon (S1.setv (.p (.int z)))⟩
  · cases ea
/-! ### append -/
theorem OwnL.grow {K : PySem.W.Frag} {g : Gh} {H : Hp} {a : Addr} {xs : List PyData} {vs us : List V} {ys : List PyData} (o : OwnL K g H a xs) (r : RDs K g.Z us ys) : OwnL K g (upd H a (.lst us)) a ys := ⟨o.1, o.2.1, us, upd_same, r⟩
/-- the list of a name is written -/
theorem SR.write {K : PySem.W.Frag} {σ : L2.St} {sd : Sl} {g : Gh} {H : Hp} {i : Nat} {a : Addr} {xs ys : List PyData} {vs us : List V} (S : SR K T B g H σ sd) (e : sd[i]? = some (some (.own xs))) (ea : σ[i]? = some (some (.ref a))) (o : OwnL K g H a xs) (hb : B.H a = none) (eH : H a = some (.lst vs)) (r : RDs K g.Z us ys) :
    SR K T B g (upd H a (.lst us)) σ (sd.set i (some (.own ys))) := by
  have hi : i < sd.length := by
    by_cases z : i < sd.length
    · exact z
    · rw [List.getElem?_eq_none (by omega)] at e
      cases e
  have at_ : ∀ {j : Nat} {s : Slot}, (sd.set i (some (.own ys)))[j]? = some (some s) → (i = j ∧ s = .own ys) ∨ (i ≠ j ∧ sd[j]? = some (some s)) := fun {j s} q => by
    by_cases hj : i = j
    · subst hj
      rw [List.getElem?_set_self hi] at q
      cases q
      exact .inl ⟨rfl, rfl⟩
    · rw [List.getElem?_set_ne hj] at q
      exact .inr ⟨hj, q⟩
  refine ⟨S.good.put eH o.1 o.2.1, fun j s q => ?_, fun j k xs' ys' b hjk q1 q2 e3 => ?_, by rw [List.length_set]; exact S.len, S.base.put hb⟩
  · rcases at_ q with ⟨rfl, rfl⟩ | ⟨hj, q⟩
    · exact ⟨_, ea, a, rfl, ⟨o.1, o.2.1, us, upd_same, r⟩, hb⟩
    · obtain ⟨v, e1, q1⟩ := S.slots j s q
      refine ⟨v, e1, ?_⟩
      cases s with
      | v x => exact q1
      | thk => exact q1
      | own zs =>
        obtain ⟨b, rfl, ⟨oz, od, ws, e3, r3⟩, ob⟩ := q1
        refine ⟨b, rfl, ⟨oz, od, ws, ?_, r3⟩, ob⟩
        rw [upd_ne (show b ≠ a from fun z => S.apart i j xs zs a hj e q ea (z ▸ e1))]
        exact e3
  · rcases at_ q1 with ⟨rfl, _⟩ | ⟨_, q1⟩
    · rcases at_ q2 with ⟨hk, _⟩ | ⟨_, q2⟩
      · exact absurd hk hjk
      · exact S.apart i k xs ys' b hjk e q2 e3
    · rcases at_ q2 with ⟨rfl, _⟩ | ⟨_, q2⟩
      · exact S.apart j i xs' xs b hjk q1 e e3
      · exact S.apart j k _ _ b hjk q1 q2 e3
theorem es_app {i : Nat} {x : Str} {e : Expr} {m : Sl → M Res} {p apos cpos : Pos} (hi : X.N[i]? = some x) (hv : Vis X.env.scope x) (hd : (x == ("__debug__" : Str)) = false) (hcd : (x == ("__classdict__" : Str)) = false) (h : EE T X W B e m) (hn : noStar e = true) (hbase : attributeBase (.Name x p) "append" X.env (eval (.Name x p) X.env) = eval (.Name x p) X.env)
    (hline : (apos.endLine == cpos.line) = true) : ES T X W B (.Expr (.Call (.Attribute (.Name x p) "append" apos) [e] [] cpos) pos) (appM i m) := by
  refine ⟨fun pins s σ H D I hh => ?_⟩
  obtain ⟨g, sd, S, hw⟩ := hh
  have hw : (appM i m sd).wp (PF X.K T B D g) (PXS X.K T B W) := hw
  unfold appM at hw
  split at hw
  · rename_i xs e1
    obtain ⟨v, e2, a, rfl, o, hb⟩ := S.slots i _ e1
    have few : ((backTo cpos (starEach [e] X.env)).all (fun x => !x.1) && (backToKw cpos (keywordEach [] X.env)).all (fun x => x.1.isSome) && decide ([e].length + ([] : List Keyword).length + (if ([] : List Keyword).isEmpty then 0 else 1) < 30)) = true := by
      rw [star_ok hn]
      rfl
    refine (ps_expr (pe_bm PySem.F.plainAttrs_list PySem.F.slot_list_append PySem.F.type_list_append mt_append (pe_var (pos := p) hi hv hd hcd) (pa_cons h pa_nil (star_ok hn)) hbase few hline (star_ok hn) rfl) rfl).run pins s σ H D I ?_
    obtain ⟨_, _, vs0, e3, _⟩ := id o
    refine ⟨_, e2, .inl ⟨rfl, vs0, .inl (.inl e3)⟩, tE.st S hw fun u g1 H1 r st S1 R hk => ?_⟩
    obtain ⟨d, ed, hk⟩ := wp_ofOpt hk
    obtain ⟨hz, hk⟩ := wp_guard hk
    have hk : PF X.K T B D g (.nx, sd.set i (some (.own (xs ++ [d])))) := hk
    obtain ⟨g2, st2, S2, rx⟩ := R.hand S1 st (data_val ed)
    have o2 := o.step st2
    obtain ⟨_, _, vs, e4, rr⟩ := id o2
    cases rx with
    | p rx => exact ⟨a, vs, u, rfl, rfl, e4, by rw [rr.len, sizeLine_eq]; exact of_decide_eq_true hz, hk _ g2 _ st2.mon (S2.write e1 e2 o2 hb e4 (rr.append (.cons rx .nil)))⟩
  · exact False.elim hw
theorem RDs.ins {K : PySem.W.Frag} {Z : Hp} {vs : List V} {ds : List PyData} {u : V} {d : PyData} (r : RDs K Z vs ds) (h : RD K Z u d) (n : Nat) : RDs K Z (vs.take n ++ [u] ++ vs.drop n) (ds.take n ++ [d] ++ ds.drop n) :=
  ((r.take n).append (.cons h .nil)).append (r.drop n)
/-- x.insert(a, e) -/
theorem es_ins {i : Nat} {x : Str} {a e : Expr} {ma m : Sl → M Res} {p apos cpos : Pos} (hi : X.N[i]? = some x) (hv : Vis X.env.scope x) (hd : (x == ("__debug__" : Str)) = false) (hcd : (x == ("__classdict__" : Str)) = false) (ha : EE T X W B a ma) (h : EE T X W B e m) (hna : noStar a = true) (hn : noStar e = true)
    (hbase : attributeBase (.Name x p) "insert" X.env (eval (.Name x p) X.env) = eval (.Name x p) X.env) (hline : (apos.endLine == cpos.line) = true) : ES T X W B (.Expr (.Call (.Attribute (.Name x p) "insert" apos) [a, e] [] cpos) pos) (insM i ma m) := by
  refine ⟨fun pins s σ H D I hh => ?_⟩
  obtain ⟨g, sd, S, hw⟩ := hh
  have hw : (insM i ma m sd).wp (PF X.K T B D g) (PXS X.K T B W) := hw
  unfold insM at hw
  split at hw
  · rename_i xs e1
    obtain ⟨v, e2, b, rfl, o, hb⟩ := S.slots i _ e1
    have few : ((backTo cpos (starEach [a, e] X.env)).all (fun x => !x.1) && (backToKw cpos (keywordEach [] X.env)).all (fun x => x.1.isSome) && decide ([a, e].length + ([] : List Keyword).length + (if ([] : List Keyword).isEmpty then 0 else 1) < 30)) = true := by
      rw [star_ok hna, star_ok hn]
      rfl
    refine (ps_expr (pe_bm PySem.F.plainAttrs_list PySem.F.slot_list_insert PySem.F.type_list_insert mt_insert (pe_var (pos := p) hi hv hd hcd) (pa_cons ha (pa_cons h pa_nil (star_ok hn)) (star_ok hna)) hbase few hline (star_ok hna) (by rw [star_ok hn]; rfl)) rfl).run pins s σ H D I ?_
    obtain ⟨_, _, vs0, e3, _⟩ := id o
    refine ⟨_, e2, .inl ⟨rfl, vs0, .inl (.inl e3)⟩, tE.st S hw fun w g1 H1 ra st S1 Ra hk => ?_⟩
    refine tE.st S1 hk fun u g2 H2 r st2 S2 R hk => ?_
    obtain ⟨k, ek, hk⟩ := wp_ofOpt hk
    obtain ⟨d, ed, hk⟩ := wp_ofOpt hk
    obtain ⟨hz, hk⟩ := wp_guard hk
    simp only [Bool.and_eq_true, decide_eq_true_eq] at hz
    obtain ⟨⟨z1, z2⟩, z3⟩ := hz
    have hk : PF X.K T B D g (.nx, sd.set i (some (.own (xs.take k.toNat ++ [d] ++ xs.drop k.toNat)))) := hk
    obtain ⟨g3, st3, S3, rx⟩ := R.hand S2 st2 (data_val ed)
    have o3 := o.step (st.trans st3)
    obtain ⟨_, _, vs, e4, rr⟩ := id o3
    have ew : w = .int k := Ra.int ek
    cases rx with
    | p rx => exact ⟨b, vs, k, u, rfl, by rw [ew], e4, by rw [rr.len, sizeLine_eq]; exact z1, z2, z3, hk _ g3 _ (st.trans st3).mon (S3.write e1 e2 o3 hb e4 (rr.ins rx k.toNat))⟩
  · exact False.elim hw
/-- x.extend(e) -/
theorem es_ext {i : Nat} {x : Str} {e : Expr} {m : Sl → M Res} {p apos cpos : Pos} (hi : X.N[i]? = some x) (hv : Vis X.env.scope x) (hd : (x == ("__debug__" : Str)) = false) (hcd : (x == ("__classdict__" : Str)) = false) (h : EE T X W B e m) (hn : noStar e = true) (hbase : attributeBase (.Name x p) "extend" X.env (eval (.Name x p) X.env) = eval (.Name x p) X.env)
    (hline : (apos.endLine == cpos.line) = true) : ES T X W B (.Expr (.Call (.Attribute (.Name x p) "extend" apos) [e] [] cpos) pos) (extM i m) := by
  refine ⟨fun pins s σ H D I hh => ?_⟩
  obtain ⟨g, sd, S, hw⟩ := hh
  have hw : (extM i m sd).wp (PF X.K T B D g) (PXS X.K T B W) := hw
  unfold extM at hw
  split at hw
  · rename_i xs e1
    obtain ⟨v, e2, a, rfl, o, hb⟩ := S.slots i _ e1
    have few : ((backTo cpos (starEach [e] X.env)).all (fun x => !x.1) && (backToKw cpos (keywordEach [] X.env)).all (fun x => x.1.isSome) && decide ([e].length + ([] : List Keyword).length + (if ([] : List Keyword).isEmpty then 0 else 1) < 30)) = true := by
      rw [star_ok hn]
      rfl
    refine (ps_expr (pe_bm PySem.F.plainAttrs_list PySem.F.slot_list_extend PySem.F.type_list_extend mt_ext (pe_var (pos := p) hi hv hd hcd) (pa_cons h pa_nil (star_ok hn)) hbase few hline (star_ok hn) rfl) rfl).run pins s σ H D I ?_
    obtain ⟨_, _, vs0, e3, _⟩ := id o
    refine ⟨_, e2, .inl ⟨rfl, vs0, .inl (.inl e3)⟩, tE.st S hw fun u g1 H1 r st S1 R hk => ?_⟩
    obtain ⟨ds, ed, hk⟩ := wp_ofOpt hk
    obtain ⟨hz, hk⟩ := wp_guard hk
    have hk : PF X.K T B D g (.nx, sd.set i (some (.own (xs ++ ds)))) := hk
    have o2 := o.step st
    obtain ⟨_, _, vs, e4, rr⟩ := id o2
    have hz := of_decide_eq_true hz
    have fin : ∀ (b : Addr) (ws : List V), u = .ref b → (SqL X.K H1 b ws ∨ SqT X.K H1 b ws) → RDs X.K g1.Z ws ds → rExt X.K (.ref a) [u] H1 (fun _ => D.nx σ) := fun b ws eu hb' r2 => ⟨a, b, vs, ws, rfl, by rw [eu], e4, hb', by rw [rr.len, r2.len, sizeLine_eq]; exact hz, hk _ g1 _ st.mon (S1.write e1 e2 o2 hb e4 (rr.append r2))⟩
    unfold Res.seq at ed
    split at ed
    · cases ed
      obtain ⟨b, ws, eu, q, r2⟩ := R.lstD
      exact fin b ws eu (.inl (S1.sqL q)) r2
    · cases ed
      obtain ⟨b, ws, eu, q, r2⟩ := R.tupD
      exact fin b ws eu (.inr (S1.sqT q)) r2
    · cases ed
      obtain ⟨b, eu, ⟨_, _, ws, q, r2⟩, _⟩ := R
      exact fin b ws eu (.inl (.inl (.inl q))) r2
    · cases ed
  · exact False.elim hw
theorem RDs.dropL {K : PySem.W.Frag} {Z : Hp} {vs : List V} {ds : List PyData} (h : RDs K Z vs ds) : RDs K Z vs.dropLast ds.dropLast := by
  rw [List.dropLast_eq_take, List.dropLast_eq_take, h.len]
  exact h.take _
/-- x.pop() -/
theorem es_pop {i : Nat} {x : Str} {p apos cpos : Pos} (hi : X.N[i]? = some x) (hv : Vis X.env.scope x) (hd : (x == ("__debug__" : Str)) = false) (hcd : (x == ("__classdict__" : Str)) = false) (hbase : attributeBase (.Name x p) "pop" X.env (eval (.Name x p) X.env) = eval (.Name x p) X.env)
    (hline : (apos.endLine == cpos.line) = true) : ES T X W B (.Expr (.Call (.Attribute (.Name x p) "pop" apos) [] [] cpos) pos) (popM i) := by
  refine ⟨fun pins s σ H D I hh => ?_⟩
  obtain ⟨g, sd, S, hw⟩ := hh
  have hw : (popM i sd).wp (PF X.K T B D g) (PXS X.K T B W) := hw
  unfold popM at hw
  split at hw
  · rename_i xs e1
    obtain ⟨v, e2, a, rfl, o, hb⟩ := S.slots i _ e1
    obtain ⟨_, _, vs0, e3, rr⟩ := id o
    obtain ⟨hz, hw⟩ := wp_guard hw
    have hw : PF X.K T B D g (.nx, sd.set i (some (.own xs.dropLast))) := hw
    have hl : 0 < vs0.length := by
      rw [rr.len]
      cases xs with
      | nil => cases hz
      | cons _ _ => exact Nat.succ_pos _
    refine (ps_expr (pe_bm0 PySem.F.plainAttrs_list PySem.F.slot_list_pop PySem.F.type_list_pop mt_pop (pe_var (pos := p) hi hv hd hcd) hbase hline) rfl).run pins s σ H D I ?_
    exact ⟨_, e2, .inl ⟨rfl, vs0, .inl (.inl e3)⟩, a, vs0, vs0[vs0.length - 1], rfl, rfl, e3, List.getElem?_eq_getElem (by omega), hw _ g _ (Step.refl (H := H)).mon (S.write e1 e2 o hb e3 (RDs.dropL rr))⟩
  · exact False.elim hw
/-- x[j] = e, x the dice -/
theorem es_dset {i j : Nat} {x : Str} {e : Expr} {m : Sl → M Res} {p p2 p3 : Pos} {l : Nat} (hN : X.N[i]? = some x) (hv : Vis X.env.scope x) (hd : (x == ("__debug__" : Str)) = false) (hcd : (x == ("__classdict__" : Str)) = false) (h : EE T X W B e m) :
    ES T X W B (.Assign [.Subscript (.Name x p) (.Constant (.int j) l p2) p3] e pos) (dsetM i j m) := by
  refine ⟨fun pins s σ H D I hh => ?_⟩
  obtain ⟨g, sd, S, hw⟩ := hh
  refine (ps_asg h (pg_sub (pe_var hN hv hd hcd) pe_int set_list) (by cases e <;> rfl) (by cases e <;> rfl)).run pins s σ H D I ?_
  refine tE.st S hw fun u g1 H1 r st S1 R hk => ?_
  obtain ⟨k, ek, hk⟩ := wp_ofOpt hk
  have hk : (match sd[i]? with | some (some (.v .dice)) => M.guard (decide (j < 3)) (.ret (Fl.nx, sd)) | _ => .stuck).wp (PF X.K T B D g) (PXS X.K T B W) := hk
  split at hk
  · rename_i es
    obtain ⟨hz, hk⟩ := wp_guard hk
    have hk : PF X.K T B D g (.nx, sd) := hk
    obtain ⟨a, n1, n2, n3, e1, hdc, e2⟩ := dice_slot S1 es
    obtain ⟨_, k1, _, k3⟩ := dice_at (x := n1) (y := n2) (z := n3) (of_decide_eq_true hz)
    obtain ⟨a1, a2, a3, e3⟩ := k3 k
    refine ⟨.ref a, e1, a, _, (j : Int), j, rfl, rfl, e2, k1, ?_⟩
    rw [R.int ek, e3]
    have st2 : Step g1 H1 g1 (upd H1 a (.lst [.int a1, .int a2, .int a3])) := .dput hdc S1.good
    exact hk σ g1 _ (st.trans st2).mon (S1.step st2 (S1.good.dput hdc))
  · exact False.elim hk
end
end Rf

set_option Elab.async false
set_option linter.all false
set_option maxRecDepth 100000
set_option maxHeartbeats 2000000
/-! R13: errors are made. -/
namespace Rf
open PySem PySem.Spec PyProof.Rows L2
open PySem.W (ksFn ksEnv excObj excTup kxs_mw ks_superObj)

/-- the dict of an error that keeps one thing -/
theorem dict_one {h : Heap} {dx : Addr} {f : Str} {hs : Int} {t : Tok} {u : Value} {n : Nat} {v : V} (e : h.get? dx = some (PySem.W.dictOf [⟨hs, .str f t, u⟩] n)) (r : RelV v u) : ∃ mA, h.Ns1 dx mA ∧ ∀ g, RelO (([(f, v)] : List (Str × V)).lookup g) (mA g) := by
  refine ⟨fun g => nsFind #[⟨hs, .str f t, u⟩] g, ⟨_, #[⟨hs, .str f t, u⟩], n, e, rfl, ?_, ?_, fun g => rfl⟩, fun g => ?_⟩
  · intro y hy
    simp at hy
    subst hy
    exact ⟨f, t, rfl⟩
  · exact List.pairwise_singleton _ _
  · by_cases z : g = f
    · subst z
      have e1 : nsFind #[⟨hs, .str g t, u⟩] g = some u := by
        simp [nsFind, findBy, Value.isStr]
      show RelO _ (nsFind _ g)
      rw [e1]
      simp [List.lookup]
      exact r
    · have z2 : (g == f) = false := by simpa using z
      have e1 : nsFind #[⟨hs, .str f t, u⟩] g = none := by
        simp [nsFind, findBy, Value.isStr, Ne.symm z]
      show RelO _ (nsFind _ g)
      rw [e1]
      simp [List.lookup, z2]
      exact True.intro
def oneV (P : V → Prop) : List V → Prop
  | [v] => P v
  | _ => False
section
variable {X : Cx}
theorem pmk_kept {x f a m qual : Str} {C fI cda cc : Addr} {B newId initId : String} {bmB : List Value} {params : Arguments} {scope : Scope} {dV kV doc pm ct : Value} {an od ccd : Option Addr} {osl ccs csl : Array (Option Value)} {cdd cld : Option Addr} {ccl cl : Value} {vs : Array Value} {file : Str} {tf : Tok} {cd : ClassData}
    {p0 p1 p2 p3 p4 p5 p6 p7 p8 p9 p pos : Pos} {j k : Nat} {e : Expr} {te : TE} {ar : Arg}
    (FB : ExcBaseFacts B newId initId bmB) (SF : StoreFacts B bmB "object.__setattr__" "object") (KF : PySem.W.KxsFacts B initId) (q : PySem.W.excInitIn X.K C bmB newId = true) (hi : PySem.W.findIn X.K (.ref C) "__init__" = some (some (.ref fI)))
    (lk : X.K.lookup fI = some ⟨.type "function", od, .func (ksFn "__init__" qual params [.Expr (.Call (.Attribute (.Call (.Name "super" p0) [] [] p1) "__init__" p2) [.Constant (.str m) j p3] [] p4) p5, .Assign [.Attribute (.Name "self" p6) f p7] (.Name a p8) p9] scope dV kV doc pm an (.ref cda) ct cc), osl⟩)
    (hcd : PySem.W.codeIn X.K (.ref cda) qual = true) (hb : ∀ u v, bindArgs (ksFn "__init__" qual params [.Expr (.Call (.Attribute (.Call (.Name "super" p0) [] [] p1) "__init__" p2) [.Constant (.str m) j p3] [] p4) p5, .Assign [.Attribute (.Name "self" p6) f p7] (.Name a p8) p9] scope dV kV doc pm an (.ref cda) ct cc) ⟨[u, v], []⟩ = pure [(Str.ofString "self", u), (a, v)])
    (hp : (params.posonlyargs ++ params.args).head? = some ar) (har : ar.arg = "self") (hae : (("self" : Str) == a) = false) (had : (a == ("__debug__" : Str)) = false)
    (hl1 : scope.names.lookup ("self" : Str) = some .local) (hl2 : scope.names.lookup a = some .local) (hks : scope.names.lookup ("super" : Str) = some .globalImplicit) (hkc : scope.names.lookup ("__class__" : Str) = some .free)
    (hco : scope.isCoroutine = false) (hgen : scope.isGenerator = false) (hk : scope.kind = .function) (hnc : ∀ y ∈ scope.names, y.2 ≠ .cell)
    (hcode : X.K.lookup cda = some ⟨ccl, cdd, .fields vs, ccs⟩) (hvs : vs[2]? = some (.str file tf)) (hfile : ((X.prog.main.file : Str) == file) = true) (htop : (X.prog.main.scope.names.lookup ("super" : Str)).isSome = false)
    (hcell : X.K.lookup cc = some ⟨cl, cld, .cell (some (.ref C)), csl⟩) (hD : PySem.W.clsIn X.K C = some cd) (hsub : PySem.W.mroIn X.K C (.ref C) = some true) (hms : X.mg "super" = none)
    (hop : PySem.W.nsIn X.K cStatics "thirdparty.any" = some none) (hsup : PySem.W.ks_superIn X.K C C "__init__" = some (some (.builtin initId))) (hB : PySem.W.subIn X.K (.ref C) (.type B) = some true)
    (hsa : PySem.W.findIn X.K (.ref C) "__setattr__" = some (some (.builtin "object.__setattr__"))) (hov : PySem.W.excOver X.K C bmB = true) (htk : PySem.W.takerIn X.K C f = some none) (hhd : PySem.W.hasDictIn X.K C = true)
    (r : Raises X (.ref C)) (gC : X.mg x = some (.ref C)) (kC : PySem.W.keepIn X.K (.ref C) = true) (hg : Gl X x) (hdb : (x == ("__debug__" : Str)) = false) (hr : Room (k + 1) X.A)
    (hev : ∀ env : PySem.Env, ∃ pl : Sem Bool, eval (.Call (.Attribute (.Call (.Name "super" p0) [] [] p1) "__init__" p2) [.Constant (.str m) j p3] [] p4) env = (do
      let ov ← attributeBase (.Call (.Name "super" p0) [] [] p1) "__init__" env (eval (.Call (.Name "super" p0) [] [] p1) env)
      standAt p2.atName
      let (f, first) ← holding [ov] (getMethod ov "__init__" pl)
      callWith p4 f first (backTo p4 (starEach [.Constant (.str m) j p3] env)) []))
    (he : PE X e te) (hn : noStar e = true) :
    PMk X (.Call (.Name x p) [e] [] pos) (fun σ H Q => te σ H fun v H1 => ∀ dx, H1 dx = none → Q (.ref C) (some dx) (upd H1 dx (.xd [(f, v)]))) := by
  intro pins s σ H Q I h
  refine wpAny_Call_Name_kw (ld_glob I hg gC ?_ hdb)
  refine PySem.W.callWith_K (h₀ := X.base) I.ok.mod.kin kC (thn ((pa_cons he pa_nil (star_ok hn)).run pos pins s σ H (fun vs H1 => oneV (fun v => ∀ dx, H1 dx = none → Q (.ref C) (some dx) (upd H1 dx (.xd [(f, v)]))) vs) I h) fun us s1 ⟨vs, H1, I1, r1, hq⟩ => ⟨I1.kIn, ?_⟩) (star_ok hn) rfl
  obtain ⟨v, ev, hq⟩ : ∃ v, vs = [v] ∧ ∀ dx, H1 dx = none → Q (.ref C) (some dx) (upd H1 dx (.xd [(f, v)])) := by
    match vs, hq with
    | [v], hq => exact ⟨v, rfl, hq⟩
    | [], hq => exact False.elim hq
    | _ :: _ :: _, hq => exact False.elim hq
  subst ev
  obtain ⟨u, rfl, ru⟩ := vals1 r1
  obtain ⟨nm, N', qn, bs, bm, hdct, sn, sub, ab, col, dd, k0, k1, k2, k3, k5, hC, hT⟩ := PySem.W.excInit_of I1.kIn q
  have XK := I1.kIn
  have hi' : PySem.W.Looks (model X.prog X.w) s1.heap (typeLookup (.ref C) "__init__") (some (.ref fI)) := PySem.W.looks_findIn XK hi
  have I1' := I1
  obtain ⟨hh, gg, dr, tk, os⟩ := s1
  have kk : ∀ b o, hh.get? b = some o → ((hh.push (PySem.W.kdv_tup [u])).push (HandSPX.excO C hh.objs.size)).get? b = some o := fun b o e => Heap.get?_push_of_some _ (Heap.get?_push_of_some _ e)
  have he2 : ((hh.push (PySem.W.kdv_tup [u])).push (HandSPX.excO C hh.objs.size)).get? (hh.objs.size + 1) = some (HandSPX.excO C hh.objs.size) := by heap_get
  have ht2 : ((hh.push (PySem.W.kdv_tup [u])).push (HandSPX.excO C hh.objs.size)).get? hh.objs.size = some (PySem.W.kdv_tup [u]) := by heap_get
  have hs2 : ((hh.push (PySem.W.kdv_tup [u])).push (HandSPX.excO C hh.objs.size)).objs.size = hh.objs.size + 2 := by rw [Heap.size_push, Heap.size_push]
  have lim : Heap.NoLimit hh := I1.nolimit
  refine wpAny_call (show codeAny (model X.prog X.w) X.A (.call (.ref C) ⟨[u], []⟩) _ _ from ?_)
  refine (HandSPX.call_own FB hT hC hi' (fun self => PySem.W.exc_bind (XK _ _ lk) rfl self) (by show 1 ≤ sizeLine; rw [sizeLine_eq]; omega) ?_)
  generalize hh2 : (hh.push (PySem.W.kdv_tup [u])).push (HandSPX.excO C hh.objs.size) = h2 at kk he2 ht2 hs2 ⊢
  refine PySem.ks_codeAny_call_defAt (binds := [(Str.ofString "self", .ref (hh.objs.size + 1)), (a, u)]) ?_ (kk _ _ (XK _ _ lk)) rfl (lim.keeps kk) (PySem.W.codeRec_of (XK.keeps kk) hcd) rfl (.of_eq (hb _ _)) hnc (fun y hy => ?_) (fun h₁ hns hk₁ => ?_) hco hgen hk
  · have := hr.dp
    rw [make_depth]
    omega
  · rcases List.mem_cons.mp hy with rfl | hy
    · exact hl1
    · cases List.mem_singleton.mp hy
      exact hl2
  have F0 : Fr hh h2.objs.size h₁ (fun y => [(Str.ofString "self", Value.ref (hh.objs.size + 1)), (a, u)].reverse.lookup y) := ⟨hns, fun b o e => hk₁ b o (kk b o e), by rw [hs2]; omega⟩
  have free : ∀ n, hh.get? (hh.objs.size + n) = none := fun n => Heap.get?_none_of_le (Nat.le_add_right _ _)
  have N0 : News hh h2.objs.size h₁ [(hh.objs.size + 1, excObj C hh.objs.size none .none), (hh.objs.size, excTup [u])] := by
    intro p hp
    rcases List.mem_cons.mp hp with rfl | hp
    · exact ⟨hk₁ _ _ he2, by show hh.objs.size + 1 ≠ _; rw [hs2]; omega, free 1⟩
    · cases List.mem_singleton.mp hp
      exact ⟨hk₁ _ _ ht2, by show hh.objs.size ≠ _; rw [hs2]; omega, free 0⟩
  obtain ⟨pl, hpl⟩ := hev (callEnv (ksFn "__init__" qual params [.Expr (.Call (.Attribute (.Call (.Name "super" p0) [] [] p1) "__init__" p2) [.Constant (.str m) j p3] [] p4) p5, .Assign [.Attribute (.Name "self" p6) f p7] (.Name a p8) p9] scope dV kV doc pm an (.ref cda) ct cc) h2.objs.size fI)
  refine PySem.ks_wpAt_execs_cons (PySem.ks_wpAt_Expr_any (PySem.ks_wpAt_MethodCall (pl := pl) ?_ hpl) (by show (scope.kind == .module && _) = false; rw [hk]; rfl) rfl)
  refine PySem.ks_wpAt_super_base hks hkc (by decide) rfl (hk₁ _ _ (kk _ _ (XK _ _ lk))) rfl hp rfl (hk₁ _ _ (kk _ _ (XK _ _ hcode))) rfl hvs hfile htop ?_
  obtain ⟨mb, hb1, hb2⟩ := I1.mod.blt
  have keep1 : ∀ b o, X.base.get? b = some o → h₁.get? b = some o := fun b o e => F0.keep b o (I1.bk b o e)
  refine PySem.W.ks_loadName_global hk hks (Calls.loadGlobal_builtin (I1.mod.glob.keeps keep1) hms (hb1.keeps keep1) ((hb2 _ (by decide)).trans (by decide +kernel)) ⟨rfl, ?_⟩)
  refine wpAny_loadName_free hk hkc rfl ⟨_, hk₁ _ _ (kk _ _ (XK _ _ hcell)), rfl⟩ ?_
  rw [har]
  refine wpAny_loadName_local hk hl1 F0.ns (v := .ref (hh.objs.size + 1)) (by simp [List.lookup, hae]) ?_
  obtain ⟨oD, hD1, hD2⟩ : ∃ oD, hh.get? C = some oD ∧ oD.data = .cls cd := by
    have hD := hD
    unfold PySem.W.clsIn at hD
    split at hD
    · rename_i c d cd' sl ho
      cases hD
      exact ⟨_, XK _ _ ho, rfl⟩
    · cases hD
  have inst : PySem.W.InstAt h₁ (hh.objs.size + 1) (excObj C hh.objs.size none .none) C none := .of_exc0 N0 List.mem_cons_self
  refine PySem.ks_wpAny_isType_cls (F0.keep _ _ hD1) hD2 ⟨rfl, ?_⟩
  refine PySem.ks_wpAny_call_super (F0.keep _ _ hD1) hD2 inst.at_ inst.cls (fun c e => by cases e) (PySem.W.looks_mroIn (XK.keeps F0.keep) hsub) (fun h3 e3 k3 => ?_)
  obtain ⟨F3, N3, l3⟩ := PySem.W.ks_newsPush (s := ⟨h₁, gg, dr, tk + 2, os⟩) F0 N0 rfl e3 k3
  have inst3 : PySem.W.InstAt h3 (hh.objs.size + 1) (excObj C hh.objs.size none .none) C none := .of_exc0 N3 (List.mem_cons_of_mem _ List.mem_cons_self)
  refine PySem.W.kxs_method (s := ⟨h3, gg, dr, tk + 2, os⟩) KF F3 XK N3 List.mem_cons_self inst3 hop hsup hB (by decide) fun q4 h4 F4 N4 l4 => ?_
  refine PySem.W.kxs_callWith1 (i := initId) (x := hh.objs.size + 1) N4 List.mem_cons_self ?_
  show wpAny _ _ (spliced ((false, eval (.Constant (.str m) j p3) _) :: backTo p4 (starEach [] _))) _ _ _
  refine Calls.spliced_cons (Calls.Constant_str (Calls.spliced_nil ⟨PySem.W.kxs_at N4 List.mem_cons_self, ?_⟩))
  have ne1 : ∀ {b : Addr}, hh.objs.size + 1 < b → b ≠ hh.objs.size + 1 := fun h => Nat.ne_of_gt h
  have le3 : hh.objs.size + 1 < h₁.objs.size := l3 _ List.mem_cons_self
  have le4 : hh.objs.size + 1 < q4 := l4 _ (List.mem_cons_of_mem _ List.mem_cons_self)
  have low : ∀ {ot : Obj}, ∀ p ∈ [(hh.objs.size, ot)], p.1 ≠ hh.objs.size + 1 := fun p hp => by
    cases List.mem_singleton.mp hp
    exact Nat.ne_of_lt (Nat.lt_succ_self _)
  refine PySem.W.kxs_call (s := ⟨h4, gg, dr, tk + 2 + 1 + 1, os⟩) F4 XK N4 FB q List.mem_cons_self (.tail (ne1 le4) (.tail (ne1 le3) (.head low))) (by show 1 ≤ sizeLine; rw [sizeLine_eq]; omega) fun t5 h5 F5 N5 l5 => ?_
  have le5 : hh.objs.size + 1 < t5 := l5 _ (List.mem_cons_of_mem _ (List.mem_cons_of_mem _ List.mem_cons_self))
  refine PySem.ks_wpAt_execs_cons (PySem.ks_wpAt_Assign_Attr ?_ rfl)
  refine wpAt_of_wpAny (wpAny_Name (wpAny_loadName_local hk hl2 F5.ns (v := u) (by simp [List.lookup]) ?_) had)
  refine wpAny_Name (wpAny_loadName_local hk hl1 F5.ns (v := .ref (hh.objs.size + 1)) (by simp [List.lookup, hae]) ?_) (by decide)
  refine PySem.W.set_exc0 (s := ⟨h5, gg, dr, tk + 2 + 1 + 1, os⟩) (t := t5) (c2 := .none) SF F5 XK N5 (by simp) hsa hov htk hhd rfl (.tail (ne1 le5) (.tail (ne1 le4) (.tail (ne1 le3) (.head low)))) (by show 1 ≤ 1000; omega) fun dx h6 F6 N6 l6 => ?_
  refine wpAt_of_wpAny (wpAny_execs_nil ?_)
  have lx : hh.objs.size + 1 < dx := l6 (hh.objs.size + 1, excObj C t5 none .none) (by simp)
  have hx := (N6 _ List.mem_cons_self).1
  have hz := (N6 (hh.objs.size + 1, excObj C t5 (some dx) .none) (by simp)).1
  refine ⟨rfl, ?_⟩
  obtain ⟨G, g1, g2⟩ := restrict h6 fun b => decide (b ≠ hh.objs.size + 1)
  have gk : ∀ b, b ≠ hh.objs.size + 1 → G.get? b = h6.get? b := fun b hb => g1 b (decide_eq_true hb)
  have ge : G.get? (hh.objs.size + 1) = none := g2 _ (by simp)
  have nd : H1 dx = none := I1.hok.fresh (by show hh.objs.size ≤ dx; omega)
  have ok1 : ∃ mA, G.Ns1 dx mA ∧ ∀ y, RelO (([(f, v)] : List (Str × V)).lookup y) (mA y) := dict_one ((gk dx (ne1 lx)).trans hx) ru
  have J : L2.Inv X pins σ (upd H1 dx (.xd [(f, v)])) ⟨G, gg, dr, tk + 2 + 1 + 1 + 2, os⟩ :=
    I1.laid (t' := tk + 2 + 1 + 1 + 2) (a := dx) (o := .xd [(f, v)]) (h' := G) (fun b o eo => by
      rw [gk b (Nat.ne_of_lt (Nat.lt_succ_of_lt (Heap.lt_size eo)))]
      exact F6.keep b o eo) (by show hh.objs.size ≤ dx; omega) ok1
  refine ⟨hh.objs.size + 1, _, _, ⟨G, gg, dr, tk + 2 + 1 + 1 + 2, os⟩, _, .ref C, some dx, rfl, J, fun b o eo => ?_, ge, hz, ⟨rfl, rfl⟩, rfl, rfl, ?_, rfl, I1.bare, r, hq dx nd⟩
  · by_cases hb : b = hh.objs.size + 1
    · rw [hb, ge] at eo
      cases eo
    · exact (gk b hb).symm.trans eo
  · rw [upd_ne (Nat.ne_of_lt lx)]
    exact I1.hok.fresh (Nat.le_succ _)
end
end Rf

set_option Elab.async false
set_option linter.all false
set_option maxRecDepth 100000
set_option maxHeartbeats 2000000
/-! R14: raise, try. -/
namespace Rf
open PySem PySem.Spec PyProof.Rows L2
section
variable {T : Tab} {X : Cx} {W : WX} {B : Bs} {pos : Pos}
/-- raise of an error without a value -/
theorem es_raise0 {c : Nat} {C : Addr} {e : Expr} (hc : X.calm = true) (tk : Takes X W) (hca : T.ca c = some C) (hcf : T.cf c = none) (h : PMk X e fun _ H Q => Q (.ref C) none H) : ES T X W B (.Raise (some e) none pos) fun _ => .exc c none := by
  refine ⟨fun pins s σ H D I hh => ?_⟩
  obtain ⟨g, sd, S, hw⟩ := hh
  refine (ps_raise hc tk h).run pins s σ H D I ?_
  exact (show PXS X.K T B W c none from hw) (.ref C) none σ g H sd S ⟨C, hca, rfl, .inl ⟨hcf, rfl, rfl⟩⟩
/-- .. of one that keeps a value -/
theorem es_raise1 {c : Nat} {C : Addr} {f : Str} {e : Expr} {m : Sl → M Res} (hc : X.calm = true) (tk : Takes X W) (hca : T.ca c = some C) (hcf : T.cf c = some f) (h : PMk X e fun σ H Q => tE X.K T B W m σ H fun v H1 => ∀ dx, H1 dx = none → Q (.ref C) (some dx) (upd H1 dx (.xd [(f, v)]))) :
    ES T X W B (.Raise (some e) none pos) (rs1M c m) := by
  refine ⟨fun pins s σ H D I hh => ?_⟩
  obtain ⟨g, sd, S, hw⟩ := hh
  refine (ps_raise hc tk h).run pins s σ H D I ?_
  refine tE.st S hw fun v g1 H1 r st S1 R hk dx hdx => ?_
  obtain ⟨d, ed, hk⟩ := wp_ofOpt hk
  have hk : PXS X.K T B W c (some d) := hk
  obtain ⟨g2, st2, S2, rx⟩ := R.hand S1 st (data_val ed)
  cases rx with
  | p rx => exact hk (.ref C) (some dx) σ g2 _ sd (S2.lay hdx fun ps z => by cases z) ⟨C, hca, rfl, .inr ⟨f, d, dx, v, hcf, rfl, rfl, upd_same, rx⟩⟩

/-! ### try -/
/-- what a clause's suite wishes behind itself -/
def gone (i : Nat) (D : Ends) : Ends := { nx := fun σ' H' => D.nx (σ'.set i none) H', rt := D.rt, bk := fun σ' H' => D.bk (σ'.set i none) H', ct := fun σ' H' => D.ct (σ'.set i none) H' }
structure Cl where
  c : Value
  nm : Option Nat
  ts : Addr → Value → Option Addr → TS
def Cl.wish (l : Cl) (D : Ends) (a : Addr) (cls : Value) (d : Option Addr) (σ : L2.St) (H : Hp) : Prop := match l.nm with
  | none => l.ts a cls d D σ H
  | some i => l.ts a cls d (gone i D) (σ.set i (some (.ref a))) H
def wMix (K : PySem.W.Frag) (Wout : WX) (D : Ends) : List Cl → WX
  | [] => Wout
  | l :: r => fun cls d σ H => ∃ b, PySem.W.exmOne K cls l.c = some b ∧ (b = true → ∀ a, H a = none → l.wish D a cls d σ H) ∧ (b = false → wMix K Wout D r cls d σ H)
inductive HdM (X : Cx) : List ExceptHandler → List Cl → Prop
  | nil : HdM X [] []
  | cons {x : Str} {n : Option Str} {l : Cl} {b₀ : Stmt} {suite : List Stmt} {np pos' : Pos} {hds : List ExceptHandler} {ls : List Cl} (hc : Names X x l.c) (hn : (n = none ∧ l.nm = none) ∨ ∃ y i, n = some y ∧ l.nm = some i ∧ X.N[i]? = some y ∧ X.env.kindOf y = some .local)
      (hsu : ∀ (a : Addr) (oe : Obj) (cls : Value) (d : Option Addr) (pn : List (Addr × Obj)), Zc cls d oe → (∃ vs, oe.data = .fields vs) → PSs (X.suite a ((a, oe) :: pn)) (b₀ :: suite) (l.ts a cls d)) (r : HdM X hds ls) :
      HdM X (.ExceptHandler (some (.Name x np)) n (b₀ :: suite) pos' :: hds) (l :: ls)
theorem ps_try_mix {body : List Stmt} {h₀ : ExceptHandler} {hds : List ExceptHandler} {ls : List Cl} {tb : WX → TS} {Wout : WX} (hN : X.N.Nodup) (hs : X.stack = X.env :: X.outer) (hf : X.env.frame = some X.env.locals) (tk : Takes X Wout)
    (hb : ∀ (W : WX) (pn : List (Addr × Obj)) (xe : Value → Shared → Prop), Takes (X.tr pn xe) W → PassesOwn (model X.prog X.w) X.A X.env xe → PSs (X.tr pn xe) body (tb W)) (hh : HdM X (h₀ :: hds) ls) :
    PS X (.Try body (h₀ :: hds) [] [] pos) (fun D σ H => tb (wMix X.K Wout D ls) D σ H) := by
  refine ⟨fun pins s σ H D I h => ?_⟩
  have ok := I.ok
  have frames : X.A.frames = some (X.env :: X.outer) := ok.frames.trans (congrArg some hs)
  have through := (hb (wMix X.K Wout D ls) (X.pn ++ pins) (fun e s₁ => wpAny (model X.prog X.w) X.A (noteFrame e X.env) (fun _ s₂ => wpAny (model X.prog X.w) X.A (setFlight e none) (fun _ s₃ => wpAny (model X.prog X.w) X.A (handleBy e X.env (h₀ :: hds)) (SP X pins D) X.xe s₃) X.xe s₂) X.xe s₁) (fun u s' xx => ?_) PassesOwn.looking).run [] s σ H D (I.toTry _) h
  · refine wpAny_Try_except (wpAny_mono through (fun f s1 hsp => ?_) fun _ _ x => x)
    cases f with
    | next =>
      obtain ⟨σ1, H1, J, q⟩ := hsp
      exact wpAny_execs_nil ⟨σ1, H1, J.ofTry ok, q⟩
    | ret u =>
      obtain ⟨v, σ1, H1, J, r, q⟩ := hsp
      exact ⟨v, σ1, H1, J.ofTry ok, r, q⟩
    | brk =>
      obtain ⟨σ1, H1, J, q⟩ := hsp
      exact ⟨σ1, H1, J.ofTry ok, q⟩
    | cont =>
      obtain ⟨σ1, H1, J, q⟩ := hsp
      exact ⟨σ1, H1, J.ofTry ok, q⟩
  · obtain ⟨a, G, sI, pins2, σ2, H2, cls, d, rfl, J2, ground, up2, sky, fresh, os2, bare2, wish⟩ := xx
    have J : L2.Inv X pins σ2 H2 sI := J2.ofTry ok
    rw [show (X.tr (X.pn ++ pins) _).stack = X.env :: X.outer from hs] at sky
    refine Sky.land Zc.steady frames hf sky fun h3 fl3 up3 => ?_
    have K3 : L2.Inv X pins σ2 H2 { s' with heap := h3 } := J.landed ground fl3.1 (up2.trans up3) os2 bare2
    have away : ∀ {h : Heap} {o : Obj} {ws : Array Value}, h.FunFrames G (X.env :: X.outer) → h.get? a = some o → o.data = .fields ws → a ∉ frs (X.env :: X.outer) := fun ff e dd hm => by
      obtain ⟨_, o2, e2, nf⟩ := ff.mem hm
      rw [e] at e2
      cases e2
      exact nf _ dd
    obtain ⟨oe3, ws3, he3, hz3, hd3⟩ := fl3.there
    have out := away fl3.2.2.1 he3 hd3
    have notL : a ≠ X.env.locals := fun z => out (List.mem_filterMap.mpr ⟨X.env, List.mem_cons_self, by rw [hf, z]⟩)
    have notF : a ∉ X.fs := fun hm => by
      obtain ⟨env, m1, m2⟩ := List.mem_filterMap.mp hm
      exact out (List.mem_filterMap.mpr ⟨env, List.mem_cons_of_mem _ m1, m2⟩)
    have S3 := K3.suite he3 hd3 fresh notL notF
    have kind : PySem.W.Looks (model X.prog X.w) h3 (typeOf (.ref a)) cls := fun A Q E s k q => wpAny_typeOf_ref (k _ _ he3) (by rw [hz3.1]; exact q)
    have each : ∀ {hs2 : List ExceptHandler} {l2 : List Cl}, HdM X hs2 l2 → wMix X.K Wout D l2 cls d σ2 H2 → wpAny (model X.prog X.w) X.A (handleBy (.ref a) X.env hs2) (SP X pins D) X.xe { s' with heap := h3 } := by
      intro hs2 l2 hk
      induction hk with
      | nil =>
        intro wsh
        refine wpAny_handleBy_nil ?_
        obtain ⟨_, _, _, oe, ws, Tb, oT, ts, he, hz, hd, h1, hr⟩ := id fl3
        unfold PySem.passOn
        refine wpAny_bind (wpAny_field he hd h1 ?_)
        rw [if_neg (show ¬ ((Value.ref Tb == Value.none) = true) from by simp)]
        have fin : wpAny (model X.prog X.w) X.A (setFlight (.ref a) X.env.frame) (fun _ s4 => wpAny (model X.prog X.w) X.A (throw (.ref a) : Sem Flow) (SP X pins D) X.xe s4) X.xe { s' with heap := h3 } := by
          rw [hf]
          exact HandSPX.setFlight_upZ fl3 fun h4 held up4 => wpAny_throw (tk _ _ ⟨a, G, sI, pins, σ2, H2, cls, d, rfl, J, ground, (up2.trans up3).trans up4, .inr (.inr (by rw [hs]; exact held)), fresh, os2, bare2, wsh⟩)
        first
          | exact wpAny_bind (wpAny_pure (wpAny_bind fin))
          | exact wpAny_bind fin
      | @cons x n l b₀ suite np pos' hds2 ls2 hc hn hsu r ih =>
        intro ⟨b, eb, yes, no⟩
        refine wpAny_handleBy_cons (codeAny_handlers_test ?_) (by intro q; cases q)
        have test : ∀ {Q E : Value → Shared → Prop}, Q l.c { s' with heap := h3 } → wpAny (model X.prog X.w) (X.A.mark (some (.ref a))) (eval (.Name x np) X.env) Q E { s' with heap := h3 } := fun {Q E} q => by
          obtain ⟨hg, hdbg, hm | ⟨hm, hv, hnn⟩⟩ := hc
          · exact ld_glob (X := X.suite a ((a, oe3) :: (X.pn ++ pins))) S3 hg hm q hdbg
          · exact ld_blt (X := X.suite a ((a, oe3) :: (X.pn ++ pins))) S3 hg hm hv q hnn hdbg
        refine test ((PySem.W.exm_one (M := model X.prog X.w) K3.kIn kind eb).here ?_)
        cases b with
        | false =>
          show wpAny _ X.A (handleBy (.ref a) X.env hds2) _ _ _
          exact ih (no rfl)
        | true =>
          have wsh := yes rfl a fresh
          unfold Cl.wish at wsh
          rcases hn with ⟨rfl, en⟩ | ⟨y, i, rfl, en, hi, hl⟩
          · rw [en] at wsh
            refine codeAny_handlers_suite (HandSPX.lands_againZ fl3 fun h4 fl4 up4 => ?_)
            have K4 : L2.Inv X pins σ2 H2 { s' with heap := h4 } := J.landed ground fl4.1 ((up2.trans up3).trans up4) os2 bare2
            obtain ⟨oe4, ws4, he4, hz4, hd4⟩ := fl4.there
            refine wpAny_mono ((hsu a oe4 cls d (X.pn ++ pins) hz4 ⟨_, hd4⟩).run [] _ _ H2 _ (K4.suite he4 hd4 fresh notL notF) wsh) (fun f s6 hsp => ?_) (fun _ _ z => False.elim z)
            cases f with
            | next =>
              obtain ⟨σ6, H6, S6, q6⟩ := hsp
              exact ⟨_, _, S6.unsuite ok, q6⟩
            | ret u =>
              obtain ⟨v6, σ6, H6, S6, r6, q6⟩ := hsp
              exact ⟨_, _, _, S6.unsuite ok, r6, q6⟩
            | brk =>
              obtain ⟨σ6, H6, S6, q6⟩ := hsp
              exact ⟨_, _, S6.unsuite ok, q6⟩
            | cont =>
              obtain ⟨σ6, H6, S6, q6⟩ := hsp
              exact ⟨_, _, S6.unsuite ok, q6⟩
          · rw [en] at wsh
            refine codeAny_handlers_suite_as (HandSPX.lands_againZ fl3 fun h4 fl4 up4 => ?_)
            have K4 : L2.Inv X pins σ2 H2 { s' with heap := h4 } := J.landed ground fl4.1 ((up2.trans up3).trans up4) os2 bare2
            obtain ⟨oe4, ws4, he4, hz4, hd4⟩ := fl4.there
            refine store_ok (X := X.suite a ((a, oe4) :: (X.pn ++ pins))) (v := .ref a) (K4.suite he4 hd4 fresh notL notF) hN hi (.inl hl) rfl (fun s5 S5 => ?_) (.inr hl)
            refine wpAny_mono ((hsu a oe4 cls d (X.pn ++ pins) hz4 ⟨_, hd4⟩).run [] s5 _ H2 _ S5 wsh) (fun f s6 hsp => ?_) (fun _ _ z => False.elim z)
            have leave : ∀ {σ6 : L2.St} {H6 : Hp} {Q : Shared → Prop}, L2.Inv (X.suite a ((a, oe4) :: (X.pn ++ pins))) [] σ6 H6 s6 → (∀ s7, L2.Inv X pins (σ6.set i none) H6 s7 → Q s7) →
                wpAny (model X.prog X.w) X.A (do bindName X.env y .none; unbindBehindTheSuite X.env y pos') (fun _ s7 => Q s7) X.xe s6 := fun S6 hq => gone_ok (S6.unsuite ok) hN hi hl hq
            cases f with
            | next =>
              obtain ⟨σ6, H6, S6, q6⟩ := hsp
              exact leave S6 fun s7 J7 => ⟨_, _, J7, q6⟩
            | ret u =>
              obtain ⟨v6, σ6, H6, S6, r6, q6⟩ := hsp
              exact leave S6 fun s7 J7 => ⟨_, _, _, J7, r6, q6⟩
            | brk =>
              obtain ⟨σ6, H6, S6, q6⟩ := hsp
              exact leave S6 fun s7 J7 => ⟨_, _, J7, q6⟩
            | cont =>
              obtain ⟨σ6, H6, S6, q6⟩ := hsp
              exact leave S6 fun s7 J7 => ⟨_, _, J7, q6⟩
    exact each hh wish
end
end Rf

set_option Elab.async false
set_option linter.all false
set_option maxRecDepth 100000
set_option maxHeartbeats 2000000
/-! R15: try, with what its suites hand back; defs. -/
namespace Rf
open PySem PySem.Spec PyProof.Rows L2
section
variable {T : Tab} {X : Cx} {W : WX} {B : Bs} {pos : Pos}
theorem SR.plain {K : PySem.W.Frag} {σ : L2.St} {sd : Sl} {g : Gh} {H : Hp} {th : Option Addr} (S : SR K T B g H σ sd) : SR K T ⟨g, H, th⟩ g H σ (sd.map Slot.plain) := by
  have at_ : ∀ {j : Nat} {s : Slot}, (sd.map Slot.plain)[j]? = some (some s) → ∃ x, s = .v x ∧ sd[j]? = some (some (.v x)) := fun {j s} e => by
    rw [List.getElem?_map] at e
    obtain ⟨q, e1, e2⟩ := Option.map_eq_some_iff.mp e
    cases q with
    | none => cases e2
    | some q =>
      cases q with
      | v x => cases e2; exact ⟨x, rfl, e1⟩
      | own xs => cases e2
      | thk => cases e2
  refine ⟨S.good, fun j s e => ?_, fun j k xs ys a hjk e1 _ _ => ?_, by rw [List.length_map]; exact S.len, .refl⟩
  · obtain ⟨x, rfl, e1⟩ := at_ e
    exact S.slots j _ e1
  · obtain ⟨x, z, _⟩ := at_ e1
    cases z
theorem SR.setThk {K : PySem.W.Frag} {σ : L2.St} {sd : Sl} {g : Gh} {H : Hp} {i : Nat} {a : Addr} (S : SR K T B g H σ sd) (e : B.th = some a) : SR K T B g H (σ.set i (some (.ref a))) (sd.set i (some .thk)) := by
  have at_ : ∀ {j : Nat} {s : Slot}, (sd.set i (some .thk))[j]? = some (some s) → (i = j ∧ i < sd.length ∧ s = .thk) ∨ (i ≠ j ∧ sd[j]? = some (some s)) := fun {j s} e => by
    by_cases hj : i = j
    · subst hj
      by_cases hi : i < sd.length
      · rw [List.getElem?_set_self hi] at e
        cases e
        exact .inl ⟨rfl, hi, rfl⟩
      · rw [List.getElem?_eq_none (by rw [List.length_set]; omega)] at e
        cases e
    · rw [List.getElem?_set_ne hj] at e
      exact .inr ⟨hj, e⟩
  refine ⟨S.good, fun j s q => ?_, fun j k xs ys b hjk e1 e2 e3 e4 => ?_, by rw [List.length_set, List.length_set]; exact S.len, S.base⟩
  · rcases at_ q with ⟨rfl, hi, rfl⟩ | ⟨hj, q⟩
    · exact ⟨.ref a, List.getElem?_set_self (by rw [← S.len]; exact hi), a, rfl, e⟩
    · obtain ⟨v, e1, q1⟩ := S.slots j s q
      exact ⟨v, by rw [List.getElem?_set_ne hj]; exact e1, q1⟩
  · rcases at_ e1 with ⟨_, _, z⟩ | ⟨h1, e1⟩
    · cases z
    · rcases at_ e2 with ⟨_, _, z⟩ | ⟨h2, e2⟩
      · cases z
      · rw [List.getElem?_set_ne h1] at e3
        rw [List.getElem?_set_ne h2] at e4
        exact S.apart j k xs ys b hjk e1 e2 e3 e4
abbrev Hsl := List (Nat × Option Nat × (M Res → Sl → M Res))
/-- the suite of a clause for the class h, entered with an error (c, k) -/
def SuOk (T : Tab) (X : Cx) (h : Nat) (nm : Option Nat) (e : Expr) (me : M Res → Sl → M Res) : Prop :=
  ∀ (a : Addr) (oe : Obj) (cls : Value) (d : Option Addr) (pn : List (Addr × Obj)) (B : Bs) (c : Nat) (k : Option PyData), Zc cls d oe → (∃ vs, oe.data = .fields vs) → B.th = some a → Good T B.g B.H → ExcV X.K T B.g B.H cls d c k →
    EE T (X.suite a ((a, oe) :: pn)) W0 B e (me (kept (c == h && nm.isSome) k))
/-- clauses: class, name's slot, what they hand back -/
inductive HsOk (T : Tab) (X : Cx) : List ExceptHandler → Hsl → Prop
  | nil : HsOk T X [] []
  | cons {x : Str} {n : Option Str} {h : Nat} {C : Addr} {nm : Option Nat} {e : Expr} {me : M Res → Sl → M Res} {np p2 p3 : Pos} {hds : List ExceptHandler} {ls : Hsl} (hc : Names X x (.ref C)) (hC : T.ca h = some C)
      (hn : (n = none ∧ nm = none) ∨ ∃ y i, n = some y ∧ nm = some i ∧ X.N[i]? = some y ∧ X.env.kindOf y = some .local) (hs : SuOk T X h nm e me) (r : HsOk T X hds ls) :
      HsOk T X (.ExceptHandler (some (.Name x np)) n [.Return (some e) p2] p3 :: hds) ((h, nm, me) :: ls)
def hsM (sub : Nat → Nat → Bool) : Hsl → Nat → Option PyData → Sl → M Res
  | [], c, k, _ => .exc c k
  | (h, nm, me) :: r, c, k, σ => cond (sub c h) (me (kept (c == h && nm.isSome) k) (suiteSl nm σ)).calm (hsM sub r c k σ)
/-- a suite's reading, for an error that is told -/
def suT (T : Tab) (K : PySem.W.Frag) (h : Nat) (nm : Option Nat) (me : M Res → Sl → M Res) (a : Addr) (cls : Value) (d : Option Addr) : TS := fun D σ H =>
  ∃ (B : Bs) (c : Nat) (k : Option PyData), B.th = some a ∧ Good T B.g B.H ∧ ExcV K T B.g B.H cls d c k ∧ tE K T B W0 (me (kept (c == h && nm.isSome) k)) σ H D.rt
theorem hs_mix {hds : List ExceptHandler} {ls : Hsl} (h : HsOk T X hds ls) : ∃ cs, HdM X hds cs ∧ ∀ (sub : Nat → Nat → Bool) (W : WX) (D : Ends) (B : Bs) (g : Gh) (σ : L2.St) (sd : Sl) (c : Nat) (k : Option PyData),
    (∀ h C D, T.ca c = some C → T.ca h = some D → h ∈ ls.map (·.1) → PySem.W.exmOne X.K (.ref C) (.ref D) = some (sub c h)) → ((hsM sub ls c k sd).bind fun r => .ret (.ret r, sd)).wp (PF X.K T B D g) (PXS X.K T B W) →
    ∀ cls d g' H', Mon g g' → SR X.K T B g' H' σ sd → ExcV X.K T g' H' cls d c k → wMix X.K W D cs cls d σ H' := by
  induction h with
  | nil => exact ⟨[], .nil, fun sub W D B g σ sd c k _ hw cls d g' H' m S ev => (show PXS X.K T B W c k from hw) cls d σ g' H' sd S ev⟩
  | @cons x n h C nm e me np p2 p3 hds ls hc hC hn hs r ih =>
    obtain ⟨cs, h1, h2⟩ := ih
    refine ⟨⟨.ref C, nm, suT T X.K h nm me⟩ :: cs, .cons hc hn (fun a oe cls d pn hz hf => ⟨fun pins s σ H D I ⟨B, c, k, hb, hg, hx, ht⟩ => ?_⟩) h1, fun sub W D B g σ sd c k hsub hw cls d g' H' m S ev => ?_⟩
    · exact (pss_one (ps_ret (hs a oe cls d pn B c k hz hf hb hg hx))).run pins s σ H D I ht
    · obtain ⟨Cc, eC, rfl, _⟩ := id ev
      refine ⟨sub c h, hsub h Cc C eC hC (by simp), fun hb a ha => ?_, fun hb => ?_⟩
      · have hw : (((cond (sub c h) (me (kept (c == h && nm.isSome) k) (suiteSl nm sd)).calm (hsM sub ls c k sd))).bind fun r => .ret (.ret r, sd)).wp (PF X.K T B D g) (PXS X.K T B W) := hw
        rw [hb] at hw
        have hw := M.wp_calm _ _ _ ((M.wp_bind _ _ _ _).mp hw)
        have fin : ∀ {τ : L2.St}, SR X.K T ⟨g', H', some a⟩ g' H' τ (suiteSl nm sd) → tE X.K T ⟨g', H', some a⟩ W0 (me (kept (c == h && nm.isSome) k)) τ H' D.rt := fun {τ} Sτ =>
          ⟨g', _, Sτ, M.wp_mono _ hw (fun r hr v g2 H2 st2 S2 R2 => (show PF X.K T B D g (.ret r, sd) from hr) v σ g2 H2 (m.trans st2.mon) (S.step st2 S2.good) (by
            cases r with
            | v y => exact R2
            | l fr xs =>
              obtain ⟨b, e1, o, hb2, _⟩ := R2
              exact ⟨b, e1, o, S.bsn hb2⟩)) fun _ _ z => z.elim⟩
        show Cl.wish ⟨.ref C, nm, suT T X.K h nm me⟩ D a (.ref Cc) d σ H'
        cases nm with
        | none => exact ⟨⟨g', H', some a⟩, c, k, rfl, S.good, ev, fin S.plain⟩
        | some i => exact ⟨⟨g', H', some a⟩, c, k, rfl, S.good, ev, fin (S.plain.setThk rfl)⟩
      · have hw : (((cond (sub c h) (me (kept (c == h && nm.isSome) k) (suiteSl nm sd)).calm (hsM sub ls c k sd))).bind fun r => .ret (.ret r, sd)).wp (PF X.K T B D g) (PXS X.K T B W) := hw
        rw [hb] at hw
        exact h2 sub W D B g σ sd c k (fun h' C' D' e1 e2 e3 => hsub h' C' D' e1 e2 (by simp at e3 ⊢; exact .inr e3)) hw _ d g' H' m S ev
/-- the body of a try: what is handed back, or thrown away -/
def tryB (rt : Bool) (e : Expr) (p : Pos) : Stmt := cond rt (.Return (some e) p) (.Expr e p)
theorem es_try {rt : Bool} {e : Expr} {m : Sl → M Res} {h₀ : ExceptHandler} {hds : List ExceptHandler} {ls : Hsl} {sub : Nat → Nat → Bool} {p : Pos} (hN : X.N.Nodup) (hs : X.stack = X.env :: X.outer) (hf : X.env.frame = some X.env.locals) (tk : Takes X W)
    (hb : ∀ (W : WX) (pn : List (Addr × Obj)) (xe : Value → Shared → Prop), Takes (X.tr pn xe) W → EE T (X.tr pn xe) W B e m) (hsw : rt = false → swapsWith e none p.line X.env = pure false)
    (hsub : ∀ c h C D, T.ca c = some C → T.ca h = some D → h ∈ ls.map (·.1) → PySem.W.exmOne X.K (.ref C) (.ref D) = some (sub c h)) (hh : HsOk T X (h₀ :: hds) ls) : ES T X W B (.Try [tryB rt e p] (h₀ :: hds) [] [] pos) (tryM rt m (hsM sub ls)) := by
  obtain ⟨cs, c1, c2⟩ := hs_mix hh
  refine ⟨fun pins s σ H D I hh => ?_⟩
  obtain ⟨g, sd, S, hw⟩ := hh
  have hw := (M.wp_handle _ _ _ _ _).mp hw
  have px : ∀ c k, (((hsM sub ls c k sd).bind fun r => .ret (.ret r, sd)).wp (PF X.K T B D g) (PXS X.K T B W)) → PX X.K T B (wMix X.K W D cs) σ sd g H c k := fun c k hx cls d g' H' st S' ev => c2 sub W D B g σ sd c k (fun h C D e1 e2 e3 => hsub c h C D e1 e2 e3) hx cls d g' H' st.mon S' ev
  cases rt with
  | true =>
    refine (ps_try_mix (tb := fun W' => tRet (tE X.K T B W' m)) hN hs hf tk (fun W' pn xe tk' _ => pss_one (ps_ret (hb W' pn xe tk'))) c1).run pins s σ H D I ?_
    exact ⟨g, sd, S, M.wp_mono _ hw (fun r hr v g1 H1 st S1 R => (show PF X.K T B D g (.ret r, sd) from hr) v σ g1 H1 st.mon S1 (ResV.resR (X := X) R)) px⟩
  | false =>
    refine (ps_try_mix (tb := fun W' => tDrop (tE X.K T B W' m)) hN hs hf tk (fun W' pn xe tk' _ => pss_one (ps_expr (hb W' pn xe tk') (hsw rfl))) c1).run pins s σ H D I ?_
    exact ⟨g, sd, S, M.wp_mono _ hw (fun r hr v g1 H1 st S1 R => (show PF X.K T B D g (.nx, sd) from hr) σ g1 H1 st.mon S1) px⟩
end
end Rf

set_option Elab.async false
set_option linter.all false
set_option maxRecDepth 100000
set_option maxHeartbeats 2000000
/-! R16: a def keeps what its body says. -/
namespace Rf
open PySem PySem.Spec PyProof.Rows L2
section
variable {K : PySem.W.Frag} {T : Tab} {g : Gh} {H : Hp}
theorem start_sr {N : List Str} {vs : List V} {xs : List Val} (G : Good T g H) (r : Reps K T g vs xs) (hl : xs.length ≤ N.length) : SR K T ⟨g, H, none⟩ g H (L2.start N vs) (startSl N.length xs) := by
  have lv := r.len
  have at_ : ∀ {i : Nat} {s : Slot}, (startSl N.length xs)[i]? = some (some s) → ∃ x, s = .v x ∧ xs[i]? = some x := fun {i s} e => by
    unfold startSl at e
    by_cases hi : i < xs.length
    · rw [List.getElem?_append_left (by simpa using hi), List.getElem?_map] at e
      obtain ⟨x, e1, e2⟩ := Option.map_eq_some_iff.mp e
      cases e2
      exact ⟨x, rfl, e1⟩
    · rw [List.getElem?_append_right (by simpa using hi), List.getElem?_replicate] at e
      split at e <;> cases e
  refine ⟨G, fun i s e => ?_, fun i j ys zs a _ e1 _ _ => ?_, ?_, .refl⟩
  · obtain ⟨x, rfl, e1⟩ := at_ e
    obtain ⟨v, e2, q⟩ := r.get e1
    refine ⟨v, ?_, q⟩
    unfold L2.start
    have hi : i < vs.length := by
      by_cases z : i < vs.length
      · exact z
      · rw [List.getElem?_eq_none (by omega)] at e2
        cases e2
    rw [List.getElem?_append_left (by simpa using hi), List.getElem?_map, e2]
    rfl
  · obtain ⟨_, z, _⟩ := at_ e1
    cases z
  · unfold startSl L2.start
    simp only [List.length_append, List.length_map, List.length_replicate]
    omega
theorem start_srT {N : List Str} {fl : Addr} (G : Good T g H) (hl : 1 ≤ N.length) : SR K T ⟨g, H, some fl⟩ g H (L2.start N [.ref fl]) (some .thk :: List.replicate (N.length - 1) none) := by
  have at_ : ∀ {i : Nat} {s : Slot}, (some Slot.thk :: List.replicate (N.length - 1) none)[i]? = some (some s) → i = 0 ∧ s = .thk := fun {i s} e => by
    cases i with
    | zero =>
      cases e
      exact ⟨rfl, rfl⟩
    | succ i =>
      rw [List.getElem?_cons_succ, List.getElem?_replicate] at e
      split at e <;> cases e
  refine ⟨G, fun i s e => ?_, fun i j ys zs a _ e1 _ _ => ?_, ?_, .refl⟩
  · obtain ⟨rfl, rfl⟩ := at_ e
    exact ⟨.ref fl, rfl, fl, rfl, rfl⟩
  · obtain ⟨_, z⟩ := at_ e1
    cases z
  · unfold L2.start
    simp only [List.length_cons, List.length_append, List.length_map, List.length_replicate, List.length_nil]
    omega
theorem wp_body {B : Bs} {m : M (Fl × Sl)} {Q : VK} {E : XK} (h : (m.bind flRes).wp (PC K T Q B.g B.H) (PXC K T E B.g B.H)) :
    m.wp (PF K T B { nx := fun _ H' => Q .non H', rt := Q } B.g) (PXS K T B fun cls d _ H' => E cls d H') := by
  refine M.wp_mono _ ((M.wp_bind _ _ _ _).mp h) (fun f hf => ?_) fun c k hx cls d σ' g' H' sd' S' ev => hx cls d g' H' S'.base S'.good ev
  obtain ⟨f, s⟩ := f
  cases f with
  | nx => exact fun σ' g' H' _ S' => (show PC K T Q B.g B.H (.v (.p .none)) from hf) .non g' H' S'.base S'.good (.p .non)
  | brk => exact False.elim hf
  | cont => exact False.elim hf
  | ret r =>
    refine fun v σ' g' H' _ S' R => (show PC K T Q B.g B.H r.up from hf) v g' H' S'.base S'.good ?_
    cases r with
    | v x => exact R
    | l fr xs =>
      obtain ⟨a, e, o, hb⟩ := R
      exact ⟨rfl, a, e, o, hb⟩
end
section
variable {P : Program} {w : World} {K : PySem.W.Frag} {mg : Str → Option Value} {base : Heap} {T : Tab} {k : Nat} {f : Addr} {name qual : Str} {params : Arguments} {body : List Stmt} {scope : Scope} {dV kV doc pm cdv ct oc : Value} {an od : Option Addr} {osl : Array (Option Value)} {N ps : List Str}
theorem fn_def {m : Sl → M (Fl × Sl)} (lk : K.lookup f = some ⟨oc, od, .func (PySem.W.fnOf name qual params body scope dV kV doc pm an cdv ct), osl⟩) (hcd : PySem.W.codeIn K cdv qual = true) (S : FnScope N ps scope)
    (hb : ∀ us : List Value, us.length = ps.length → bindArgs (PySem.W.fnOf name qual params body scope dV kV doc pm an cdv ct) ⟨us, []⟩ = pure (ps.zip us))
    (hbody : ∀ (A : Around) (outer : List PySem.Env) (s : Shared) (H : Hp) (E : XK) (B : Bs), Room k (A.deeper (envOfC qual scope s.heap.objs.size f cdv)) → A.guards = some [] →
      ESs T (cxOf (L2.CX P w) P w K mg base N qual scope f cdv A outer s H E) (fun cls d _ H' => E cls d H') B body m) :
    FnG P w K mg base T (k + 1) f fun xs => .guard (xs.length == ps.length) ((m (startSl N.length xs)).bind flRes) := by
  refine ⟨fun A outer s H g us vs xs Q E hr hg e0 G rv R hw => ?_⟩
  obtain ⟨hl, hw⟩ := wp_guard hw
  have hl : xs.length = ps.length := by simpa using hl
  have hlv : vs.length = ps.length := by rw [R.len, hl]
  have hpl : ps.length ≤ N.length := by
    have := congrArg List.length S.pre
    rw [List.length_take] at this
    omega
  refine LamX.run_ofS lk hcd S hr e0 (.of_eq (hb us (by rw [← rv.length]; exact hlv))) rv hlv fun hr' => ⟨_, hbody A outer s H E ⟨g, H, none⟩ hr' hg, g, _, start_sr G R (by omega), ?_⟩
  exact wp_body (B := ⟨g, H, none⟩) hw
theorem fn_defT {a : Str} {m : M Res → Sl → M (Fl × Sl)} (lk : K.lookup f = some ⟨oc, od, .func (PySem.W.fnOf name qual params body scope dV kV doc pm an cdv ct), osl⟩) (hcd : PySem.W.codeIn K cdv qual = true) (S : FnScope N [a] scope)
    (hb : ∀ us : List Value, us.length = 1 → bindArgs (PySem.W.fnOf name qual params body scope dV kV doc pm an cdv ct) ⟨us, []⟩ = pure ([a].zip us)) (hN : N[0]? = some a) (hv : Vis scope a) (hd : (a == ("__debug__" : Str)) = false) (hcl : (a == ("__classdict__" : Str)) = false)
    (hbody : ∀ (A : Around) (outer : List PySem.Env) (s : Shared) (H : Hp) (E : XK) (B : Bs) (th : M Res), Room k (A.deeper (envOfC qual scope s.heap.objs.size f cdv)) → A.guards = some [] →
      ThOk T (cxOf (L2.CX P w) P w K mg base N qual scope f cdv A outer s H E) a 0 B th →
      ESs T (cxOf (L2.CX P w) P w K mg base N qual scope f cdv A outer s H E) (fun cls d _ H' => E cls d H') B body (m th)) :
    FnT P w K mg base T k f fun th => (m th (some .thk :: List.replicate (N.length - 1) none)).bind flRes := by
  refine ⟨fun A outer s H g fl th Q E hr hg e0 G hth hw => ?_⟩
  have hpl : 1 ≤ N.length := by
    cases N with
    | nil => cases hN
    | cons _ _ => exact Nat.succ_le_succ (Nat.zero_le _)
  refine LamX.run_ofS (ps := [a]) (us := [.ref fl]) (vs := [.ref fl]) lk hcd S hr e0 (.of_eq (hb _ rfl)) (.cons rfl .nil) rfl fun hr' => ⟨_, hbody A outer s H E ⟨g, H, some fl⟩ th hr' hg (hth N qual scope cdv a 0 hN hv hd hcl hr'), g, _, start_srT G hpl, ?_⟩
  exact wp_body (B := ⟨g, H, some fl⟩) hw
end
end Rf

set_option Elab.async false
set_option linter.all false
set_option maxRecDepth 100000
set_option maxHeartbeats 2000000
/-! R17: an expression of the text is this term: by a test; what follows. -/
namespace Rf
open PySem PySem.Spec PyProof.Rows L2

inductive GV where
  | fn (i : Nat) | cst (k : Nat) | cls (c : Nat)
  deriving DecidableEq
/-- what the matcher knows of the place: global names, the def's names, whether calls may be, whether lambdas may be, the name of what the def got, the error's name and field -/
structure Sg where
  G : List (Str × GV)
  N : List Str
  calm : Bool
  lam : Bool
  thk : Option Str
  err : Option (Nat × Str × Str)
  F : List (Nat × Str)
  tn : Option Str
def okN (x : Str) : Bool := !(x == ("__debug__" : Str)) && !(x == ("__classdict__" : Str))
def visB (sc : Scope) (x : Str) : Bool := sc.names.lookup x == some .local || sc.names.lookup x == some .cell || sc.names.lookup x == some .free
def locB (sc : Scope) (x : Str) : Bool := sc.names.lookup x == some .local || sc.names.lookup x == some .cell
def glB (sc : Scope) (x : Str) : Bool := sc.names.lookup x == some .globalImplicit && !(x == ("__debug__" : Str))
def nmB (S : Sg) (sc : Scope) (i : Nat) (x : Str) : Bool := decide (S.N[i]? = some x) && visB sc x && okN x
/-- a built-in name that the text leaves alone -/
def blB (S : Sg) (sc : Scope) (x : Str) : Bool := glB sc x && (S.G.lookup x).isNone
def litC : Const → PyData → Bool
  | .int i, .int j => decide (i = j)
  | .bool i, .bool j => decide (i = j)
  | .none, .none => true
  | .str x, .str y => decide (x = y)
  | _, _ => false
def Blt.name : Blt → Option (Bool × String)
  | .len => some (false, "len")
  | .abs => some (false, "abs")
  | .max2 => some (false, "max")
  | .min2 => some (false, "min")
  | .max1 => some (false, "max")
  | .min1 => some (false, "min")
  | .int1 => some (true, "int")
  | .sum => some (false, "sum")
  | .all => some (false, "all")
  | .any => some (false, "any")
  | .tuple => some (true, "tuple")
  | .list => some (true, "list")
  | .repr => some (false, "repr")
  | .sorted => some (false, "sorted")
  | _ => none
def bltNames : List Str := ["len", "abs", "max", "min", "int", "sum", "all", "any", "tuple", "list", "repr", "isinstance", "bool", "str", "dict", "range", "enumerate", "zip", "sorted", "set"]
def Blt.hot : Blt → Bool
  | .len | .abs | .int1 | .tuple | .list | .repr => true
  | _ => false
def notSet : Expr → Bool
  | .Set _ _ _ => false
  | _ => true
def notSet' : Expr → Bool := notSet
def noSlice : Expr → Bool
  | .Slice _ _ _ _ => false
  | _ => true
/-- a target, where fn tells whose cells were made here -/
def mGs (S : Sg) (fn : Str → Bool) (sc : Scope) : List Nat → List Expr → Bool
  | [], [] => true
  | i :: is, .Name x _ :: es => decide (S.N[i]? = some x) && locB sc x && (fn x || sc.names.lookup x == some .local) && mGs S fn sc is es
  | _, _ => false
def mGn (S : Sg) (fn : Str → Bool) (sc : Scope) : List GT → List Expr → Bool
  | [], [] => true
  | .n i :: ts, .Name x _ :: es => decide (S.N[i]? = some x) && locB sc x && (fn x || sc.names.lookup x == some .local) && mGn S fn sc ts es
  | .ns is :: ts, .Tuple us _ _ :: es => S.calm && mGs S fn sc is us && mGn S fn sc ts es
  | _, _ => false
def mG (S : Sg) (fn : Str → Bool) (sc : Scope) : G → Expr → Bool
  | .name i, .Name x _ => decide (S.N[i]? = some x) && locB sc x && (fn x || sc.names.lookup x == some .local)
  | .names is, .Tuple es _ _ => S.calm && mGs S fn sc is es
  | .nest ts, .Tuple es _ _ => S.calm && mGn S fn sc ts es
  | _, _ => false
def gNms : G → Expr → List Str
  | .name _, .Name x _ => [x]
  | .names _, .Tuple es _ _ => es.filterMap fun e => match e with | .Name x _ => some x | _ => none
  | .nest _, .Tuple es _ _ => es.flatMap fun e => match e with
    | .Name x _ => [x]
    | .Tuple us _ _ => us.filterMap fun e => match e with | .Name x _ => some x | _ => none
    | _ => []
  | _, _ => []
def isTup : Expr → Bool
  | .Tuple _ _ _ => true
  | _ => false
/-- pairs are walked into pairs -/
def tgOk : I → Expr → Bool
  | .enum _, e => isTup e
  | .enumS _ _, e => isTup e
  | .zip _ _, e => isTup e
  | _, _ => true
/-- within a block, a lambda -/
def Sg.inner (S : Sg) : Sg := { S with thk := none, err := none }
def Sg.lamb (S : Sg) : Sg := { S with thk := none, err := none, lam := false }
def noArgs (a : Arguments) : Bool := a.posonlyargs.isEmpty && a.args.isEmpty && a.vararg.isNone && a.kwonlyargs.isEmpty && a.kw_defaults.isEmpty && a.kwarg.isNone && a.defaults.isEmpty
/-- how stars may stand in a call: none, one alone, or none ahead -/
def starsOk : EL → List Expr → Bool
  | .star _ .nil, _ => true
  | _, [] => true
  | _, a :: r => noStar a
mutual
def mE (S : Sg) : E → Scope → Expr → Bool
  | .var i, sc, e => match e with
    | .Name x _ => nmB S sc i x
    | _ => false
  | .lit d, _, e => match e with
    | .Constant c _ _ => litC c d
    | .Dict [] [] _ => (match d with | .dict [] => true | _ => false)
    | _ => false
  | .cst k, sc, e => match e with
    | .Name x _ => glB sc x && decide (S.G.lookup x = some (.cst k))
    | _ => false
  | .fnv k, sc, e => match e with
    | .Name x _ => glB sc x && decide (S.G.lookup x = some (.fn k))
    | _ => false
  | .tup es, sc, e => match e with
    | .Tuple l _ _ => mEL S es sc l
    | _ => false
  | .lst es, sc, e => match e with
    | .List l _ => mEL S es sc l
    | _ => false
  | .bin o a b, sc, e => match e with
    | .BinOp x op y _ => decide (op = opOf o) && mE S a sc x && mE S b sc y
    | _ => false
  | .neg a, sc, e => match e with
    | .UnaryOp .USub x _ => mE S a sc x
    | _ => false
  | .not a, sc, e => match e with
    | .UnaryOp .Not x _ => mE S a sc x
    | _ => false
  | .and a b, sc, e => match e with
    | .BoolOp .And [x, y] _ => mE S a sc x && mE S b sc y
    | .BoolOp .And (x :: y :: z :: r) p => mE S a sc x && mE S b sc (.BoolOp .And (y :: z :: r) p)
    | _ => false
  | .or a b, sc, e => match e with
    | .BoolOp .Or [x, y] _ => mE S a sc x && mE S b sc y
    | .BoolOp .Or (x :: y :: z :: r) p => mE S a sc x && mE S b sc (.BoolOp .Or (y :: z :: r) p)
    | _ => false
  | .cmp o a b, sc, e => match e with
    | .Compare x [op] [y] _ => notSet y && decide (op = copOf o) && mE S a sc x && mE S b sc y
    | _ => false
  | .cmp2 o o' a b c, sc, e => match e with
    | .Compare x [op, op'] [y, z] _ => notSet z && decide (op = copOf o) && decide (op' = copOf o') && mE S a sc x && mE S b sc y && mE S c sc z
    | _ => false
  | .isn neg a, sc, e => match e with
    | .Compare x [.Is] [.Constant .none _ _] _ => !neg && mE S a sc x
    | .Compare x [.IsNot] [.Constant .none _ _] _ => neg && mE S a sc x
    | _ => false
  | .ife c a b, sc, e => match e with
    | .IfExp x y z _ => mE S c sc x && mE S a sc y && mE S b sc z
    | _ => false
  | .call f es, sc, e => match e with
    | .Call (.Name x _) l [] _ => S.calm && glB sc x && decide (S.G.lookup x = some (.fn f)) && mEL S es sc l && starsOk es l
    | _ => false
  | .callv i es, sc, e => match e with
    | .Call (.Name x _) (a :: l) [] _ => S.calm && nmB S sc i x && mEL S es sc (a :: l) && (a :: l).all noStar
    | _ => false
  | .thunk f b, sc, e => match e with
    | .Call (.Name x _) [.Lambda as body scope _] [] _ => S.calm && S.lam && glB sc x && decide (S.G.lookup x = some (.fn f)) && noArgs as && LamX.lamSB sc scope && mE S.lamb b scope body
    | _ => false
  | .callT i, _, e => match e with
    | .Call (.Name x _) [] [] _ => decide (i = 0) && decide (S.thk = some x)
    | _ => false
  | .blt b es, sc, e => match b with
    | .isi t => (match es, e with
      | .cons a .nil, .Call (.Name x _) [y, .Name z _] [] _ => decide (x = "isinstance") && decide (z = Str.ofString t.name) && blB S sc x && blB S sc z && noStar y && mE S a sc y
      | _, _ => false)
    | .rev => (match es, e with
      | .cons a .nil, .Subscript y (.Slice none none (some (.UnaryOp .USub (.Constant (.int 1) _ _) _)) _) _ => mE S a sc y
      | _, _ => false)
    | .srtK => (match es, e with
      | .cons a .nil, .Call (.Name sx _) [.DictComp (.Name x _) (.Constant (.bool true) _ _) [⟨.Name y _, iter, [], z⟩] scope _] [] _ => decide (sx = "sorted") && blB S sc sx && S.calm && decide (y = x) && decide (z = 0) && ownScope scope x && okN x && notSet iter && mE S a sc iter
      | _, _ => false)
    | .lzip => (match es, e with
      | .cons a (.cons b .nil), .Call (.Name x _) [.Call (.Name v _) [y, z] [] _] [] _ => decide (x = "list") && decide (v = "zip") && blB S sc x && blB S sc v && S.calm && noStar y && noStar z && mE S a sc y && mE S b sc z
      | _, _ => false)
    | b => (match b.name, e with
      | some (_, n), .Call (.Name x _) (a :: l) [] _ => decide (x = Str.ofString n) && blB S sc x && (b.hot || S.calm) && mEL S es sc (a :: l) && (a :: l).all noStar
      | _, _ => false)
  | .idx a b, sc, e => match e with
    | .Subscript x y _ => noSlice y && mE S a sc x && mE S b sc y
    | _ => false
  | .slc a lo hi, sc, e => match e with
    | .Subscript x (.Slice l h none _) _ => mE S a sc x && mO S lo sc l && mO S hi sc h
    | _ => false
  | .lc a g it c, sc, e => match e with
    | .ListComp elt [⟨tg, iter, ifs, z⟩] scope _ => S.calm && decide (z = 0) && notSet iter && mI S it sc iter && tgOk it tg && mG S.inner (fun x => scope.names.lookup x == some .cell) (relS scope sc) g tg &&
        blkC S.N sc scope ((gNms g tg).zip g.slots) && decide (((gNms g tg).zip g.slots).map (·.2) = g.slots) && mOs S.inner c (relS scope sc) ifs && mE S.inner a (relS scope sc) elt
    | _ => false
  | .err i, _, e => match e with
    | .Attribute (.Name x _) f _ => decide (S.err = some (i, x, f))
    | _ => false
  | .dget i j, sc, e => match e with
    | .Subscript (.Name x _) (.Constant (.int k) _ _) _ => nmB S sc i x && decide (k = (j : Int))
    | _ => false
  | .lrng1 a, sc, e => match e with
    | .Call (.Name x _) [.Call (.Name y _) [z] [] _] [] _ => S.calm && decide (x = "list") && blB S sc x && decide (y = "range") && blB S sc y && noStar z && mE S a sc z
    | _ => false
  | .lrng2 a b, sc, e => match e with
    | .Call (.Name x _) [.Call (.Name y _) [z, w] [] _] [] _ => S.calm && decide (x = "list") && blB S sc x && decide (y = "range") && blB S sc y && noStar z && noStar w && mE S a sc z && mE S b sc w
    | _ => false
  | .bad, _, _ => true
def mEL (S : Sg) : EL → Scope → List Expr → Bool
  | .nil, _, l => l.isEmpty
  | .cons a r, sc, l => match l with
    | x :: xs => noStar x && mE S a sc x && mEL S r sc xs
    | [] => false
  | .star a r, sc, l => match l with
    | .Starred x _ :: xs => mE S a sc x && mEL S r sc xs
    | _ => false
def mO (S : Sg) : O → Scope → Option Expr → Bool
  | .none, _, e => e.isNone
  | .some a, sc, e => match e with
    | some x => mE S a sc x
    | none => false
def mOs (S : Sg) : O → Scope → List Expr → Bool
  | .none, _, e => e.isEmpty
  | .some a, sc, e => match e with
    | [x] => mE S a sc x
    | _ => false
def mI (S : Sg) : I → Scope → Expr → Bool
  | .seq a, sc, e => mE S a sc e
  | .rng1 a, sc, e => match e with
    | .Call (.Name x _) [y] [] _ => decide (x = "range") && blB S sc x && noStar y && mE S a sc y
    | _ => false
  | .rng2 a b, sc, e => match e with
    | .Call (.Name x _) [y, z] [] _ => decide (x = "range") && blB S sc x && noStar y && noStar z && mE S a sc y && mE S b sc z
    | _ => false
  | .enum a, sc, e => match e with
    | .Call (.Name x _) [y] [] _ => decide (x = "enumerate") && blB S sc x && noStar y && mE S a sc y
    | _ => false
  | .zip a b, sc, e => match e with
    | .Call (.Name x _) [y, z] [] _ => decide (x = "zip") && blB S sc x && noStar y && noStar z && mE S a sc y && mE S b sc z
    | _ => false
  | .enumS a k, sc, e => match e with
    | .Call (.Name x _) [y] [⟨some n, .Constant (.int c) _ _, _⟩] _ => decide (x = "enumerate") && blB S sc x && noStar y && decide (n = Str.ofString "start") && decide (c = k) && decide (-(2 ^ 62) ≤ k) && decide (k < 2 ^ 62) && mE S a sc y
    | _ => false
  | .rng3 a b d, sc, e => match e with
    | .Call (.Name x _) [y, z, w] [] _ => decide (x = "range") && blB S sc x && noStar y && noStar z && noStar w && mE S a sc y && mE S b sc z && mE S d sc w
    | _ => false
end

/-- what stands behind the matcher's knowledge -/
structure XC (T : Tab) (C : Ctx) (d : Nat) (S : Sg) (X : Cx) (W : WX) (B : Bs) (sc : Scope) : Prop where
  U : XU X
  calm : S.calm = true → X.calm = true
  nd : X.N.Nodup
  N : X.N = S.N
  sc : X.env.scope = sc
  tk : Takes X W
  gf : ∀ x i, S.G.lookup x = some (.fn i) → ∃ a, X.mg x = some (.ref a) ∧ T.fa i = some a
  gc : ∀ x k, S.G.lookup x = some (.cst k) → ∃ u v, X.mg x = some u ∧ RelV v u ∧ ∀ g, Rep X.K T g v (.p (C.cst k))
  gn : ∀ x, x ∈ bltNames → S.G.lookup x = none → X.mg x = none
  fns : ∀ i a, T.fa i = some a → FnG X.prog X.w X.K X.mg X.base T (4 * d) a (C.call i) ∧ PySem.W.keepIn X.K (.ref a) = true
  thf : ∀ i a, T.fa i = some a → FnT X.prog X.w X.K X.mg X.base T (4 * d + 1) a (C.callT i)
  room : S.calm = true → Room (4 * d) X.A
  lam : S.lam = true → Room (4 * d + 2) X.A ∧ ∃ c P, LamX.TabB X.base X.mg c P ∧ X.env.code = .ref c ∧ (P, X.env.qual ++ "<lambda>") ∈ T.tb ∧ ∀ p ∈ T.tb, p.1 = P → p.2 = X.env.qual ++ "<lambda>"
  th : ∀ x, S.thk = some x → ∀ p1 p2, PE X (.Call (.Name x p1) [] [] p2) (tE X.K T B W (thkAt C.thk 0))
  wrap : C.wrap = stdW
  er : ∀ i x f, S.err = some (i, x, f) → ∀ p1 p2, PE X (.Attribute (.Name x p1) f p2) (tE X.K T B W (thkAt C.err i))
end Rf

set_option Elab.async false
set_option linter.all false
set_option maxRecDepth 100000
set_option maxHeartbeats 4000000
/-! R18: what the matcher accepts, does what its term says: expressions. -/
namespace Rf
open PySem PySem.Spec PyProof.Rows L2
section
variable {T : Tab} {C : Ctx} {d : Nat} {S : Sg} {X : Cx} {W : WX} {B : Bs} {sc : Scope}
theorem okN_of {x : Str} (h : okN x = true) : (x == ("__debug__" : Str)) = false ∧ (x == ("__classdict__" : Str)) = false := by
  unfold okN at h
  simp only [Bool.and_eq_true, Bool.not_eq_true'] at h
  exact h
theorem visB_of {x : Str} (h : visB sc x = true) : Vis sc x := by
  unfold visB at h
  simp only [Bool.or_eq_true, beq_iff_eq] at h
  rcases h with (h | h) | h
  · exact .inl h
  · exact .inr (.inl h)
  · exact .inr (.inr h)
theorem locB_of {x : Str} (h : locB sc x = true) : Loc sc x := by
  unfold locB at h
  simp only [Bool.or_eq_true, beq_iff_eq] at h
  exact h
theorem glB_of {x : Str} (h : glB sc x = true) : sc.names.lookup x = some .globalImplicit ∧ (x == ("__debug__" : Str)) = false := by
  unfold glB at h
  simp only [Bool.and_eq_true, beq_iff_eq, Bool.not_eq_true'] at h
  exact h
theorem XC.gl (c : XC T C d S X W B sc) {x : Str} (h : glB sc x = true) : Gl X x := by
  show X.env.scope.names.lookup x = _
  rw [c.sc]
  exact (glB_of h).1
theorem XC.nm (c : XC T C d S X W B sc) {x : Str} {i : Nat} (h : nmB S sc i x = true) : X.N[i]? = some x ∧ Vis X.env.scope x ∧ (x == ("__debug__" : Str)) = false ∧ (x == ("__classdict__" : Str)) = false := by
  unfold nmB at h
  simp only [Bool.and_eq_true, decide_eq_true_eq] at h
  rw [c.N, c.sc]
  exact ⟨h.1.1, visB_of h.1.2, okN_of h.2⟩
theorem XC.bl (c : XC T C d S X W B sc) {x : Str} (h : blB S sc x = true) (hx : x ∈ bltNames) : Gl X x ∧ X.mg x = none := by
  unfold blB at h
  simp only [Bool.and_eq_true, Option.isNone_iff_eq_none] at h
  exact ⟨c.gl h.1, c.gn x hx h.2⟩
theorem XC.blk (c : XC T C d S X W B sc) (hc : S.calm = true) (s : Shared) (H : Hp) (scope : Scope) (cl : List (Str × Addr)) (D : Addr) (fp : List Addr) : XC T C d S.inner (X.blk s H scope (compEnvC scope cl D X.env) fp) W0 B (relS scope sc) where
  U := ⟨c.U.un, c.U.gd⟩
  calm := c.calm
  nd := c.nd
  N := c.N
  sc := by rw [← c.sc]; rfl
  tk := takes_none5
  gf := c.gf
  gc := c.gc
  gn := c.gn
  fns := c.fns
  thf := c.thf
  room := c.room
  lam := c.lam
  th := fun _ z => by cases z
  wrap := c.wrap
  er := fun _ _ _ z => by cases z
theorem XC.lamb (c : XC T C d S X W B sc) (A : Around) (outer : List PySem.Env) (s : Shared) (H : Hp) (E : XK) (scope : Scope) (fl cl : Addr) (hr : Room (4 * d) (A.deeper (LamX.lamEnv X scope s.heap.objs.size fl cl))) (hg : A.guards = some []) :
    XC T C d S.lamb (LamX.lamCx X A outer s H E scope fl cl) (fun cls d _ H' => E cls d H') B scope where
  U := ⟨by have := hr.un; show (A.deeper (LamX.lamEnv X scope s.heap.objs.size fl cl)).units + 200 < cLine; omega, hg⟩
  calm := fun _ => rfl
  nd := c.nd
  N := c.N
  sc := rfl
  tk := takes_of rfl rfl rfl rfl
  gf := c.gf
  gc := c.gc
  gn := c.gn
  fns := c.fns
  thf := c.thf
  room := fun _ => hr
  lam := fun z => by cases z
  th := fun _ z => by cases z
  wrap := c.wrap
  er := fun _ _ _ z => by cases z
theorem Tst {e : Expr} {me : Sl → M Res} (h : EE T X W B e me) (he : ∀ whole, isTrue e X.env whole = (do let v ← whole; standAt e.pos; holding [v] (truthy v))) : ET T X W B e fun s => (me s).bind truthM := et_truth h he
theorem sVar (c : XC T C d S X W B sc) {i : Nat} {e : Expr} (h : mE S (.var i) sc e = true) : EE T X W B e (evE C (.var i)) ∧ ET T X W B e (evT C (.var i)) := by
  unfold mE at h
  split at h
  · obtain ⟨h1, h2, h3, h4⟩ := c.nm h
    exact ⟨ee_var h1 h2 h3 h4, et_truth (ee_var h1 h2 h3 h4) fun _ => rfl⟩
  · cases h
theorem ee_dict0 {pos : Pos} : EE T X W B (.Dict [] [] pos) fun _ => .ret (.v (.p (.dict []))) := by
  refine ⟨fun pins s σ H Q I h => ?_⟩
  obtain ⟨g, sd, S, hw⟩ := h
  have hw : PR X.K T B σ sd Q g H (.v (.p (.dict []))) := hw
  refine pe_dnewK.run pins s σ H Q I fun p np => ?_
  exact hw _ (g.add p (.dK [])) _ (.new S.good np) (S.new np fun ps z => by cases z) (.p (.dct upd_same))
theorem sLit {dd : PyData} {e : Expr} (h : mE S (.lit dd) sc e = true) : EE T X W B e (evE C (.lit dd)) := by
  unfold mE at h
  split at h
  · rename_i k _ _
    unfold litC at h
    split at h
    · rw [of_decide_eq_true h]; exact ee_int
    · rw [of_decide_eq_true h]; exact ee_bl
    · exact ee_non
    · rw [of_decide_eq_true h]; exact ee_str
    · cases h
  · split at h
    · exact ee_dict0
    · cases h
  · cases h
theorem sCst (c : XC T C d S X W B sc) {k : Nat} {e : Expr} (h : mE S (.cst k) sc e = true) : EE T X W B e (evE C (.cst k)) := by
  unfold mE at h
  split at h
  · simp only [Bool.and_eq_true, decide_eq_true_eq] at h
    obtain ⟨u, v, h1, h2, h3⟩ := c.gc _ _ h.2
    exact ee_glob (c.gl h.1) h1 h2 (glB_of h.1).2 h3
  · cases h
theorem sFnv (c : XC T C d S X W B sc) {k : Nat} {e : Expr} (h : mE S (.fnv k) sc e = true) : EE T X W B e (evE C (.fnv k)) := by
  unfold mE at h
  split at h
  · simp only [Bool.and_eq_true, decide_eq_true_eq] at h
    obtain ⟨a, h1, h2⟩ := c.gf _ _ h.2
    cases hb : Nat.blt k 1000000 with
    | false =>
      refine ⟨fun pins s σ H Q I h => ?_⟩
      obtain ⟨g, sd, S, hw⟩ := h
      have hw : (M.guard (Nat.blt k 1000000) (M.ret (Res.v (.fn k)))).wp _ _ := hw
      rw [hb] at hw
      exact False.elim hw
    | true =>
      have e : evE C (.fnv k) = fun _ => .ret (.v (.fn k)) := by
        funext s
        show M.guard (Nat.blt k 1000000) _ = _
        rw [hb]
        rfl
      rw [e]
      exact ee_glob (v := .ref a) (c.gl h.1) h1 rfl (glB_of h.1).2 fun g => .fn h2
  · cases h
theorem all_star {l : List Expr} (h : l.all noStar = true) : ∀ a ∈ l, noStar a = true := fun a ha => List.all_eq_true.mp h a ha
theorem blt_mem {b : Blt} {t : Bool} {n : String} (h : b.name = some (t, n)) : Str.ofString n ∈ bltNames ∧ (Str.ofString n ≠ "__name__" ∧ (Str.ofString n == ("__debug__" : Str)) = false) := by
  cases b <;> cases h <;> decide +kernel
theorem sBlt (c : XC T C d S X W B sc) {b : Blt} {x : Str} {p pos : Pos} {a : Expr} {l : List Expr} {ml : Sl → M (List Res)} {t : Bool} {n : String} (hb : b.name = some (t, n)) (hx : x = Str.ofString n) (hg : blB S sc x = true) (hh : (b.hot || S.calm) = true) (ha : ER T X W B (a :: l) ml) (hn : ∀ e ∈ a :: l, noStar e = true) :
    EE T X W B (.Call (.Name x p) (a :: l) [] pos) fun s => (ml s).bind (Rf.blt b) := by
  subst hx
  obtain ⟨m1, m2⟩ := blt_mem hb
  obtain ⟨g1, g2⟩ := c.bl hg m1
  have hc : b.hot = false → X.calm = true := fun z => by
    rw [z] at hh
    exact c.calm (by simpa using hh)
  cases b with
  | len => cases hb; exact ee_callB bm_len g1 g2 (by decide +kernel) m2 ha hn
  | abs => cases hb; exact ee_callB bm_abs g1 g2 (by decide +kernel) m2 ha hn
  | max2 => cases hb; exact ee_callB (bm_max2 (hc rfl) c.U) g1 g2 (by decide +kernel) m2 ha hn
  | min2 => cases hb; exact ee_callB (bm_min2 (hc rfl) c.U) g1 g2 (by decide +kernel) m2 ha hn
  | max1 => cases hb; exact ee_callB (bm_max1 (hc rfl)) g1 g2 (by decide +kernel) m2 ha hn
  | min1 => cases hb; exact ee_callB (bm_min1 (hc rfl)) g1 g2 (by decide +kernel) m2 ha hn
  | int1 => cases hb; exact ee_callTy bm_int1 g1 g2 (by decide +kernel) m2 ha hn
  | bool1 => cases hb
  | sum => cases hb; exact ee_callB (bm_sum (hc rfl)) g1 g2 (by decide +kernel) m2 ha hn
  | all => cases hb; exact ee_callB (bm_all (hc rfl)) g1 g2 (by decide +kernel) m2 ha hn
  | any => cases hb; exact ee_callB (bm_any (hc rfl)) g1 g2 (by decide +kernel) m2 ha hn
  | tuple => cases hb; exact ee_callTy bm_tuple g1 g2 (by decide +kernel) m2 ha hn
  | list => cases hb; exact ee_callTy bm_list g1 g2 (by decide +kernel) m2 ha hn
  | repr => cases hb; exact ee_callB (bm_repr c.U) g1 g2 (by decide +kernel) m2 ha hn
  | str1 => cases hb
  | sorted => cases hb; exact ee_callB (bm_sorted c.U) g1 g2 (by decide +kernel) m2 ha hn
  | rev => cases hb
  | srtK => cases hb
  | lzip => cases hb
  | isi t => cases hb
theorem mGs_ok (c : XC T C d S X W B sc) {fn : Str → Bool} (hf : ∀ x, fn x = true → X.fn x = true) : ∀ {is : List Nat} {es : List Expr}, mGs S fn sc is es = true → EGs X es is
  | [], [], _ => egs_nil
  | i :: is, .Name x p :: es, h => by
    unfold mGs at h
    simp only [Bool.and_eq_true, decide_eq_true_eq, Bool.or_eq_true, beq_iff_eq] at h
    obtain ⟨⟨⟨h1, h2⟩, h3⟩, h4⟩ := h
    refine egs_cons c.nd (by rw [c.N]; exact h1) (by rw [c.sc]; exact locB_of h2) ?_ (mGs_ok c hf h4)
    rcases h3 with h3 | h3
    · exact .inl (hf _ h3)
    · exact .inr (by rw [c.sc]; exact h3)
  | [], _ :: _, h => by cases h
  | _ :: _, [], h => by cases h
theorem mGn_ok (c : XC T C d S X W B sc) {fn : Str → Bool} (hf : ∀ x, fn x = true → X.fn x = true) : ∀ {ts : List GT} {es : List Expr}, mGn S fn sc ts es = true → EGn X es ts
  | [], [], _ => egn_nil
  | .n i :: ts, .Name x p :: es, h => by
    unfold mGn at h
    simp only [Bool.and_eq_true, decide_eq_true_eq, Bool.or_eq_true, beq_iff_eq] at h
    obtain ⟨⟨⟨h1, h2⟩, h3⟩, h4⟩ := h
    refine egn_n c.nd (by rw [c.N]; exact h1) (by rw [c.sc]; exact locB_of h2) ?_ (mGn_ok c hf h4)
    rcases h3 with h3 | h3
    · exact .inl (hf _ h3)
    · exact .inr (by rw [c.sc]; exact h3)
  | .ns is :: ts, .Tuple us k p :: es, h => by
    unfold mGn at h
    simp only [Bool.and_eq_true] at h
    exact egn_t (c.calm h.1.1) (mGs_ok c hf h.1.2) (mGn_ok c hf h.2)
  | [], _ :: _, h => by cases h
  | _ :: _, [], h => by simp [mGn] at h
  | .n _ :: _, e :: _, h => by
    cases e with
    | Name x p =>
      unfold mGn at h
      simp only [Bool.and_eq_true, decide_eq_true_eq, Bool.or_eq_true, beq_iff_eq] at h
      obtain ⟨⟨⟨h1, h2⟩, h3⟩, h4⟩ := h
      refine egn_n c.nd (by rw [c.N]; exact h1) (by rw [c.sc]; exact locB_of h2) ?_ (mGn_ok c hf h4)
      rcases h3 with h3 | h3
      · exact .inl (hf _ h3)
      · exact .inr (by rw [c.sc]; exact h3)
    | _ => simp [mGn] at h
  | .ns _ :: _, e :: _, h => by
    cases e with
    | Tuple us k p =>
      unfold mGn at h
      simp only [Bool.and_eq_true] at h
      exact egn_t (c.calm h.1.1) (mGs_ok c hf h.1.2) (mGn_ok c hf h.2)
    | _ => simp [mGn] at h
theorem mG_ok (c : XC T C d S X W B sc) {fn : Str → Bool} (hf : ∀ x, fn x = true → X.fn x = true) {g : G} {e : Expr} (h : mG S fn sc g e = true) : EG X e g := by
  unfold mG at h
  split at h
  · simp only [Bool.and_eq_true, decide_eq_true_eq, Bool.or_eq_true, beq_iff_eq] at h
    obtain ⟨⟨h1, h2⟩, h3⟩ := h
    refine eg_name c.nd (by rw [c.N]; exact h1) (by rw [c.sc]; exact locB_of h2) ?_
    rcases h3 with h3 | h3
    · exact .inl (hf _ h3)
    · exact .inr (by rw [c.sc]; exact h3)
  · simp only [Bool.and_eq_true] at h
    exact eg_tup (c.calm h.1) (mGs_ok c hf h.2)
  · simp only [Bool.and_eq_true] at h
    exact eg_nest (c.calm h.1) (mGn_ok c hf h.2)
  · cases h
theorem noArgs_of {a : Arguments} (h : noArgs a = true) : a = ⟨[], [], none, [], [], none, []⟩ := by
  obtain ⟨a1, a2, a3, a4, a5, a6, a7⟩ := a
  unfold noArgs at h
  simp only [Bool.and_eq_true, List.isEmpty_iff, Option.isNone_iff_eq_none] at h
  obtain ⟨⟨⟨⟨⟨⟨h1, h2⟩, h3⟩, h4⟩, h5⟩, h6⟩, h7⟩ := h
  subst h1 h2 h3 h4 h5 h6 h7
  rfl
end
end Rf

set_option Elab.async false
set_option linter.all false
set_option maxRecDepth 100000
set_option maxHeartbeats 8000000
/-! R19: what the matcher accepts, does what its term says: all expressions. -/
namespace Rf
open PySem PySem.Spec PyProof.Rows L2
theorem nomk {o : Cop} {b : Expr} (h : notSet b = true) : behindInMarks (copOf o) b = false := by
  cases b <;> first | rfl | cases h
theorem plain_ix {b : Expr} (h : noSlice b = true) : PlainIx b := by
  intro o i
  cases b <;> first | rfl | cases h
theorem set_ok {iter : Expr} {env : PySem.Env} (h : notSet iter = true) (x : Value) : foldedSetIterable iter env x = pure x := by
  cases iter <;> first | rfl | cases h
theorem isTup_of {e : Expr} (h : isTup e = true) : ∃ es k p, e = .Tuple es k p := by
  cases e <;> first | exact ⟨_, _, _, rfl⟩ | cases h
theorem bind_ret_eq {α β : Type} (a : α) (f : α → M β) : (M.ret a).bind f = f a := rfl
section
variable {T : Tab} {C : Ctx} {d : Nat} {S : Sg} {X : Cx} {W : WX} {B : Bs} {sc : Scope}
theorem et_bad {e : Expr} : ET T X W B e fun _ => .stuck := by
  refine ⟨fun pins s σ H Q I h => ?_⟩
  obtain ⟨g, sd, S, hw⟩ := h
  exact False.elim hw
theorem ew_bad {e : Expr} : EW T X W B e fun _ => .stuck := by
  refine ⟨fun wh pins s σ H Q I h => ?_⟩
  obtain ⟨g, sd, S, hw⟩ := h
  exact False.elim hw
theorem xCall {f : Nat} {es : EL} {a : Expr} (c : XC T C d S X W B sc) (hs : ∀ {l : List Expr}, mEL S es sc l = true → EA T X W B l (evL C es)) (h1' : ∀ x, es = .star x .nil → ∀ {y : Expr}, mE S x sc y = true → EE T X W B y (evE C x)) (h : mE S (.call f es) sc a = true) : EE T X W B a (evE C (.call f es)) ∧ ET T X W B a (evT C (.call f es)) := by
  unfold mE at h
  split at h
  · rename_i x p l pos
    simp only [Bool.and_eq_true, decide_eq_true_eq] at h
    obtain ⟨⟨⟨⟨h1, h2⟩, h3⟩, h4⟩, h7⟩ := h
    obtain ⟨b, h5, h6⟩ := c.gf _ _ h3
    obtain ⟨F, hk⟩ := c.fns f b h6
    have q : EE T X W B (.Call (.Name x p) l [] pos) (evE C (.call f es)) := by
      have gen : ∀ {y : Expr} {l : List Expr}, noStar y = true → mEL S es sc (y :: l) = true → EE T X W B (.Call (.Name x p) (y :: l) [] pos) (evE C (.call f es)) := fun {y l} n m => by
        cases hall : l.all noStar with
        | true => exact ee_call F c.U (c.room h1) c.tk (c.gl h2) h5 hk (hs m) (all_star (by rw [List.all_cons, n, hall]; rfl)) (glB_of h2).2
        | false =>
          refine ee_callS2 F c.U (c.room h1) c.tk (c.gl h2) h5 hk (hs m) n ?_ (glB_of h2).2
          have z := hall
          rw [← Bool.not_eq_true'] at z
          rw [List.all_eq_not_any_not, Bool.not_not] at z
          exact z
      cases es with
      | nil =>
        cases l with
        | nil => exact ee_call0 F c.U (c.room h1) c.tk (c.gl h2) h5 hk (glB_of h2).2
        | cons y l => exact gen h7 h4
      | cons e r =>
        cases l with
        | nil =>
          unfold mEL at h4
          cases h4
        | cons y l => exact gen h7 h4
      | star e r =>
        cases r with
        | nil =>
          unfold mEL at h4
          split at h4
          · rename_i y sp l
            simp only [Bool.and_eq_true] at h4
            obtain ⟨k1, k2⟩ := h4
            unfold mEL at k2
            cases l with
            | cons _ _ => cases k2
            | nil =>
              have q := ee_callS1 (pos := pos) (p := p) (sp := sp) F c.U (c.room h1) c.tk (c.gl h2) h5 hk (h1' e rfl k1) (glB_of h2).2
              have e2 : evE C (.call f (.star e .nil)) = fun s => (evE C e s).bind fun r => (M.ofOpt r.items).bind fun ys => C.call f ys := by
                funext s
                show (((evE C e s).bind fun r => (M.ofOpt r.items).bind fun ys => (M.ret []).bind fun xs => M.ret (ys ++ xs)).bind fun xs => C.call f xs) = _
                rw [M.bind_bind]
                refine congrArg _ (funext fun r => ?_)
                rw [M.bind_bind]
                refine congrArg _ (funext fun ys => ?_)
                show C.call f (ys ++ []) = _
                rw [List.append_nil]
              rw [e2]
              exact q
          · cases h4
        | cons _ _ =>
          cases l with
          | nil =>
            unfold mEL at h4
            cases h4
          | cons y l => exact gen h7 h4
        | star _ _ =>
          cases l with
          | nil =>
            unfold mEL at h4
            cases h4
          | cons y l => exact gen h7 h4
    exact ⟨q, et_truth q fun _ => rfl⟩
  · cases h
theorem xCallv {i : Nat} {es : EL} {a : Expr} (c : XC T C d S X W B sc) (hs : ∀ {l : List Expr}, mEL S es sc l = true → EA T X W B l (evL C es)) (h : mE S (.callv i es) sc a = true) : EE T X W B a (evE C (.callv i es)) ∧ ET T X W B a (evT C (.callv i es)) := by
  unfold mE at h
  split at h
  · rename_i x p y l pos
    simp only [Bool.and_eq_true] at h
    obtain ⟨⟨⟨h1, h2⟩, h4⟩, h7⟩ := h
    obtain ⟨n1, n2, n3, n4⟩ := c.nm h2
    have q : EE T X W B (.Call (.Name x p) (y :: l) [] pos) (evE C (.callv i es)) := ee_callv c.fns c.U (c.room h1) c.tk n1 n2 n3 n4 (hs h4) (all_star h7)
    exact ⟨q, et_truth q fun _ => rfl⟩
  · cases h
theorem xBlt {b : Blt} {es : EL} {a : Expr} (c : XC T C d S X W B sc) (hr : ∀ {l : List Expr}, mEL S es sc l = true → ER T X W B l (evR C es)) (h1' : ∀ x, es = .cons x .nil → ∀ {y : Expr}, mE S x sc y = true → EE T X W B y (evE C x))
    (h2' : ∀ x y, es = .cons x (.cons y .nil) → (∀ {u : Expr}, mE S x sc u = true → EE T X W B u (evE C x)) ∧ ∀ {u : Expr}, mE S y sc u = true → EE T X W B u (evE C y)) (h : mE S (.blt b es) sc a = true) :
    EE T X W B a (evE C (.blt b es)) ∧ ET T X W B a (evT C (.blt b es)) := by
  unfold mE at h
  split at h
  · rename_i t
    split at h
    · rename_i x nx px y nz pz pos
      simp only [Bool.and_eq_true, decide_eq_true_eq] at h
      obtain ⟨⟨⟨⟨⟨h1, h2⟩, h3⟩, h4⟩, h5⟩, h6⟩ := h
      subst h1
      subst h2
      obtain ⟨g1, g2⟩ := c.bl h3 (by decide +kernel)
      obtain ⟨g3, g4⟩ := c.bl h4 (by cases t <;> decide +kernel)
      have q := ee_isi (t := t) (pos := pos) (p := px) (p2 := pz) (h1' x rfl h6) h5 g1 g2 g3 g4
      have e : evE C (.blt (.isi t) (.cons x .nil)) = fun s => (evE C x s).bind fun r => (M.ofOpt (r.isTy t)).bind fun b => .ret (rB b) := by
        funext s
        show (((evE C x s).bind fun r => (M.ret []).bind fun xs => M.ret (r :: xs)).bind fun xs => Rf.blt (.isi t) xs) = _
        rw [M.bind_bind]
        rfl
      have q2 : EE T X W B (.Call (.Name "isinstance" px) [y, .Name (Str.ofString t.name) pz] [] pos) (evE C (.blt (.isi t) (.cons x .nil))) := by
        rw [e]
        exact q
      exact ⟨q2, et_truth q2 fun _ => rfl⟩
    · cases h
  · split at h
    · rename_i x y k p1 p2 p3 pos
      have e : evE C (.blt .rev (.cons x .nil)) = fun s => (evE C x s).bind revR := by
        funext s
        show (((evE C x s).bind fun r => (M.ret []).bind fun xs => M.ret (r :: xs)).bind fun xs => Rf.blt .rev xs) = _
        rw [M.bind_bind]
        refine congrArg _ (funext fun r => ?_)
        show Rf.blt .rev [r] = _
        rw [revR_eq]
      have q : EE T X W B (.Subscript y (.Slice none none (some (.UnaryOp .USub (.Constant (.int 1) k p1) p2)) p3) pos) (evE C (.blt .rev (.cons x .nil))) := by
        rw [e]
        exact ee_rev (h1' x rfl h)
      exact ⟨q, et_truth q fun _ => rfl⟩
    · cases h
  · split at h
    · rename_i x sx p1 y p2 j p3 y2 p4 iter z scope dpos pos
      simp only [Bool.and_eq_true, decide_eq_true_eq] at h
      obtain ⟨⟨⟨⟨⟨⟨⟨⟨h1, h2⟩, h3⟩, h4⟩, h5⟩, h6⟩, h7⟩, h8⟩, h9⟩ := h
      subst h1
      subst h4
      subst h5
      obtain ⟨g1, g2⟩ := c.bl h2 (by decide +kernel)
      have q := ee_sortK (ps0 := p1) (pt := p4) (pk := p2) (pv := p3) (dpos := dpos) (j := j) (pos := pos) (c.calm h3) c.U (h1' x rfl h9) h6 (okN_of h7).1 (set_ok h8) g1 g2
      have e : evE C (.blt .srtK (.cons x .nil)) = fun s => (evE C x s).bind (sortKR true) := by
        funext s
        show (((evE C x s).bind fun r => (M.ret []).bind fun xs => M.ret (r :: xs)).bind fun xs => Rf.blt .srtK xs) = _
        rw [M.bind_bind]
        rfl
      rw [← e] at q
      exact ⟨q, et_truth q fun _ => rfl⟩
    · cases h
  · split at h
    · rename_i x x2 nx p1 nz p2 y y2 pos2 pos
      simp only [Bool.and_eq_true, decide_eq_true_eq] at h
      obtain ⟨⟨⟨⟨⟨⟨⟨⟨h1, h2⟩, h3⟩, h4⟩, h5⟩, h6⟩, h7⟩, h8⟩, h9⟩ := h
      subst h1
      subst h2
      obtain ⟨g1, g2⟩ := c.bl h3 (by decide +kernel)
      obtain ⟨g3, g4⟩ := c.bl h4 (by decide +kernel)
      obtain ⟨k1, k2⟩ := h2' x x2 rfl
      have q := ee_lzip (p1 := p1) (p2 := p2) (pos2 := pos2) (pos := pos) (c.calm h5) g1 g2 g3 g4 (k1 h8) (k2 h9) h6 h7
      have e : evE C (.blt .lzip (.cons x (.cons x2 .nil))) = fun s => (evE C x s).bind fun r => (evE C x2 s).bind fun r' => lzipR r r' := by
        funext s
        show (((evE C x s).bind fun r => ((evE C x2 s).bind fun r' => (M.ret []).bind fun xs => M.ret (r' :: xs)).bind fun xs => M.ret (r :: xs)).bind fun xs => Rf.blt .lzip xs) = _
        rw [M.bind_bind]
        refine congrArg _ (funext fun r => ?_)
        rw [M.bind_bind, M.bind_bind]
        rfl
      rw [← e] at q
      exact ⟨q, et_truth q fun _ => rfl⟩
    · cases h
  · split at h
    · rename_i t n nx px y l pos eb
      simp only [Bool.and_eq_true, decide_eq_true_eq] at h
      obtain ⟨⟨⟨⟨h1, h2⟩, h3⟩, h4⟩, h7⟩ := h
      have q : EE T X W B (.Call (.Name nx px) (y :: l) [] pos) (evE C (.blt b es)) := sBlt c eb h1 h2 h3 (hr h4) (all_star h7)
      exact ⟨q, et_truth q fun _ => rfl⟩
    · cases h
theorem xIdx {x y : E} {a : Expr} (c : XC T C d S X W B sc) (hx : ∀ {e : Expr}, mE S x sc e = true → EE T X W B e (evE C x)) (hy : ∀ {e : Expr}, mE S y sc e = true → EE T X W B e (evE C y)) (h : mE S (.idx x y) sc a = true) : EE T X W B a (evE C (.idx x y)) ∧ ET T X W B a (evT C (.idx x y)) := by
  unfold mE at h
  split at h
  · rename_i u v pos
    simp only [Bool.and_eq_true] at h
    have q : EE T X W B (.Subscript u v pos) (evE C (.idx x y)) := ee_idx (hx h.1.2) (hy h.2) (plain_ix h.1.1)
    exact ⟨q, et_truth q fun _ => rfl⟩
  · cases h
theorem et_isn {a : Expr} {ma : Sl → M Res} {p pos : Pos} {j : Nat} (h1 : EE T X W B a ma) : ET T X W B (.Compare a [.Is] [.Constant .none j p] pos) fun s => (ma s).bind fun x => isNM false x := by
  refine ⟨fun pins s σ H Q I h => ?_⟩
  obtain ⟨g, sd, S, hw⟩ := h
  refine (pt_cmp (pc_isN h1)).run pins s σ H Q I ?_
  refine tE.step S hw fun v g1 H1 x st S1 R hk => ?_
  unfold isNM at hk
  obtain ⟨k, e, hk⟩ := wp_ofOpt hk
  have hk : PB X.K T B σ sd Q g H (xor false k) := hk
  exact ⟨k, by rw [isN_of R e], (show PB X.K T B σ sd Q g H k from (by simpa using hk)) g1 H1 st S1⟩
theorem et_isnn {a : Expr} {ma : Sl → M Res} {p pos : Pos} {j : Nat} (h1 : EE T X W B a ma) : ET T X W B (.Compare a [.IsNot] [.Constant .none j p] pos) fun s => (ma s).bind fun x => isNM true x := by
  refine ⟨fun pins s σ H Q I h => ?_⟩
  obtain ⟨g, sd, S, hw⟩ := h
  refine (pt_cmp (pc_notN h1)).run pins s σ H Q I ?_
  refine tE.step S hw fun v g1 H1 x st S1 R hk => ?_
  unfold isNM at hk
  obtain ⟨k, e, hk⟩ := wp_ofOpt hk
  have hk : PB X.K T B σ sd Q g H (xor true k) := hk
  exact ⟨!k, by rw [isN_of R e], (show PB X.K T B σ sd Q g H (!k) from (by simpa using hk)) g1 H1 st S1⟩
theorem xIsn {neg : Bool} {x : E} {a : Expr} (hx : ∀ {e : Expr}, mE S x sc e = true → EE T X W B e (evE C x)) (h : mE S (.isn neg x) sc a = true) : EE T X W B a (evE C (.isn neg x)) ∧ ET T X W B a (evT C (.isn neg x)) := by
  unfold mE at h
  split at h
  · simp only [Bool.and_eq_true, Bool.not_eq_true'] at h
    obtain ⟨h1, h2⟩ := h
    subst h1
    exact ⟨ee_isn (hx h2), et_isn (hx h2)⟩
  · simp only [Bool.and_eq_true] at h
    obtain ⟨h1, h2⟩ := h
    subst h1
    exact ⟨ee_isnn (hx h2), et_isnn (hx h2)⟩
  · cases h
theorem xLc {x : E} {g : G} {it : I} {cc : O} {a : Expr} (c : XC T C d S X W B sc) (hi : ∀ {tg iter : Expr}, mI S it sc iter = true → tgOk it tg = true → EI T X W B tg iter (evI C it))
    (he : ∀ {S : Sg} {X : Cx} {sc : Scope}, XC T C d S X W0 B sc → ∀ {e : Expr}, mE S x sc e = true → EE T X W0 B e (evE C x)) (ht : ∀ {S : Sg} {X : Cx} {sc : Scope}, XC T C d S X W0 B sc → ∀ {l : List Expr}, mOs S cc sc l = true → ETs T X W0 B l (evC C cc)) (h : mE S (.lc x g it cc) sc a = true) :
    EE T X W B a (evE C (.lc x g it cc)) := by
  unfold mE at h
  split at h
  · simp only [Bool.and_eq_true, decide_eq_true_eq] at h
    obtain ⟨⟨⟨⟨⟨⟨⟨⟨⟨h1, h2⟩, h3⟩, h4⟩, h5⟩, h6⟩, h7⟩, h8⟩, h9⟩, h10⟩ := h
    subst h2
    have hc := c.calm h1
    exact ee_lc hc c.nd (hi h4 h5) (by rw [c.N, c.sc]; exact blkOk_by h7) h8 (fun s H D cl fp => mG_ok (c.blk h1 s H _ cl D fp) (fun _ z => z) h6) (fun s H D cl fp => ht (c.blk h1 s H _ cl D fp) h9) (fun s H D cl fp => he (c.blk h1 s H _ cl D fp) h10) (set_ok h3)
  · cases h
end
section
variable {T : Tab} {C : Ctx} {d : Nat}
mutual
theorem sE : ∀ (e : E) {S : Sg} {X : Cx} {W : WX} {B : Bs} {sc : Scope}, XC T C d S X W B sc → ∀ {a : Expr}, mE S e sc a = true → EE T X W B a (evE C e)
  | .var i, S, X, W, B, sc, c, a, h => (sVar c h).1
  | .lit dd, S, X, W, B, sc, c, a, h => sLit h
  | .cst k, S, X, W, B, sc, c, a, h => sCst c h
  | .fnv k, S, X, W, B, sc, c, a, h => sFnv c h
  | .tup es, S, X, W, B, sc, c, a, h => by
    unfold mE at h
    split at h
    · exact ee_tup (sEL es c h)
    · cases h
  | .lst es, S, X, W, B, sc, c, a, h => by
    unfold mE at h
    split at h
    · exact ee_lst (sEL es c h)
    · cases h
  | .bin o x y, S, X, W, B, sc, c, a, h => by
    unfold mE at h
    split at h
    · simp only [Bool.and_eq_true, decide_eq_true_eq] at h
      obtain ⟨⟨h1, h2⟩, h3⟩ := h
      subst h1
      exact ee_bin (om_bin o) (sE x c h2) (sE y c h3)
    · cases h
  | .neg x, S, X, W, B, sc, c, a, h => by
    unfold mE at h
    split at h
    · exact ee_neg (sE x c h)
    · cases h
  | .not x, S, X, W, B, sc, c, a, h => by
    unfold mE at h
    split at h
    · exact ee_not (sE x c h)
    · cases h
  | .and x y, S, X, W, B, sc, c, a, h => by
    unfold mE at h
    split at h
    · simp only [Bool.and_eq_true] at h
      exact ee_and (sE x c h.1) (ee_one (sE y c h.2))
    · simp only [Bool.and_eq_true] at h
      exact ee_and (sE x c h.1) (sE y c h.2)
    · cases h
  | .or x y, S, X, W, B, sc, c, a, h => by
    unfold mE at h
    split at h
    · simp only [Bool.and_eq_true] at h
      exact ee_or (sE x c h.1) (ee_one (sE y c h.2))
    · simp only [Bool.and_eq_true] at h
      exact ee_or (sE x c h.1) (sE y c h.2)
    · cases h
  | .cmp o x y, S, X, W, B, sc, c, a, h => by
    unfold mE at h
    split at h
    · simp only [Bool.and_eq_true, decide_eq_true_eq] at h
      obtain ⟨⟨⟨h0, h1⟩, h2⟩, h3⟩ := h
      subst h1
      exact ee_cmp (om_cmp c.U o) (sE x c h2) (sE y c h3) (nomk h0)
    · cases h
  | .cmp2 o o' x y z, S, X, W, B, sc, c, a, h => by
    unfold mE at h
    split at h
    · simp only [Bool.and_eq_true, decide_eq_true_eq] at h
      obtain ⟨⟨⟨⟨⟨h0, h1⟩, h2⟩, h3⟩, h4⟩, h5⟩ := h
      subst h1
      subst h2
      exact ee_cmp2 (om_cmp c.U o) (om_cmp c.U o') (sE x c h3) (sE y c h4) (sE z c h5) (nomk h0)
    · cases h
  | .isn neg x, S, X, W, B, sc, c, a, h => (xIsn (fun h => sE x c h) h).1
  | .ife x y z, S, X, W, B, sc, c, a, h => by
    unfold mE at h
    split at h
    · simp only [Bool.and_eq_true] at h
      exact ee_ife (sT x c h.1.1) (sE y c h.1.2) (sE z c h.2)
    · cases h
  | .call f es, S, X, W, B, sc, c, a, h => (xCall c (fun h => sEL es c h) (fun x e y h => sES es x e c h) h).1
  | .callv i es, S, X, W, B, sc, c, a, h => (xCallv c (fun h => sEL es c h) h).1
  | .thunk f b, S, X, W, B, sc, c, a, h => by
    unfold mE at h
    split at h
    · simp only [Bool.and_eq_true, decide_eq_true_eq] at h
      obtain ⟨⟨⟨⟨⟨⟨h1, h2⟩, h3⟩, h4⟩, h5⟩, h6⟩, h7⟩ := h
      have h5 := noArgs_of h5
      subst h5
      obtain ⟨g, e1, e2⟩ := c.gf _ _ h4
      obtain ⟨hr, cc, P, TB, hcd, hm, hu⟩ := c.lam h2
      have ew : evE C (.thunk f b) = fun s => C.callT f (noOwn (evE C b s)) := by
        funext s
        show C.wrap b _ s = _
        rw [c.wrap]
        rfl
      rw [ew]
      refine ee_thunk (j := 4 * d) (c.thf f g e2) c.U hr c.tk (c.gl h3) e1 (c.fns f g e2).2 (glB_of h3).2 TB hcd hm hu (by rw [c.sc]; exact LamX.lamS_by h6) rfl (fun _ _ _ _ _ => rfl) fun A outer s H E fl cl hr2 hg => ?_
      exact sE b (c.lamb A outer s H E _ fl cl hr2 hg) h7
    · cases h
  | .callT i, S, X, W, B, sc, c, a, h => by
    unfold mE at h
    split at h
    · simp only [Bool.and_eq_true, decide_eq_true_eq] at h
      obtain ⟨h1, h2⟩ := h
      subst h1
      exact c.th _ h2 _ _
    · cases h
  | .blt b es, S, X, W, B, sc, c, a, h => (xBlt c (fun h => sER es c h) (fun x e y h => sE1 es x .nil e c h) (fun x y e => ⟨fun h => sE1 es x _ e c h, fun h => sE2 es x y e c h⟩) h).1
  | .idx x y, S, X, W, B, sc, c, a, h => (xIdx c (fun h => sE x c h) (fun h => sE y c h) h).1
  | .slc x lo hi, S, X, W, B, sc, c, a, h => by
    unfold mE at h
    split at h
    · simp only [Bool.and_eq_true] at h
      exact ee_slc (sE x c h.1.1) (sO lo c h.1.2) (sO hi c h.2)
    · cases h
  | .lc x g it cc, S, X, W, B, sc, c, a, h => xLc c (fun h t => sI it c h t) (fun c _ h => sE x c h) (fun c _ h => sOs cc c h) h
  | .lrng1 y, S, X, W, B, sc, c, a, h => by
    unfold mE at h
    split at h
    · simp only [Bool.and_eq_true, decide_eq_true_eq] at h
      obtain ⟨⟨⟨⟨⟨⟨h1, h2⟩, h3⟩, h4⟩, h5⟩, h6⟩, h7⟩ := h
      subst h2
      subst h4
      obtain ⟨g1, g2⟩ := c.bl h3 (by decide +kernel)
      obtain ⟨g3, g4⟩ := c.bl h5 (by decide +kernel)
      exact ee_lrng1 (c.calm h1) g1 g2 g3 g4 (sE y c h7) h6
    · cases h
  | .lrng2 y z, S, X, W, B, sc, c, a, h => by
    unfold mE at h
    split at h
    · simp only [Bool.and_eq_true, decide_eq_true_eq] at h
      obtain ⟨⟨⟨⟨⟨⟨⟨⟨h1, h2⟩, h3⟩, h4⟩, h5⟩, h6⟩, h6'⟩, h7⟩, h8⟩ := h
      subst h2
      subst h4
      obtain ⟨g1, g2⟩ := c.bl h3 (by decide +kernel)
      obtain ⟨g3, g4⟩ := c.bl h5 (by decide +kernel)
      exact ee_lrng2 (c.calm h1) g1 g2 g3 g4 (sE y c h7) (sE z c h8) h6 h6'
    · cases h
  | .dget i j, S, X, W, B, sc, c, a, h => by
    unfold mE at h
    split at h
    · simp only [Bool.and_eq_true, decide_eq_true_eq] at h
      obtain ⟨h1, rfl⟩ := h
      obtain ⟨n1, n2, n3, n4⟩ := c.nm h1
      exact ee_dget n1 n2 n3 n4
    · cases h
  | .err i, S, X, W, B, sc, c, a, h => by
    unfold mE at h
    split at h
    · exact c.er _ _ _ (of_decide_eq_true h) _ _
    · cases h
  | .bad, S, X, W, B, sc, c, a, h => ee_bad
theorem sT : ∀ (e : E) {S : Sg} {X : Cx} {W : WX} {B : Bs} {sc : Scope}, XC T C d S X W B sc → ∀ {a : Expr}, mE S e sc a = true → ET T X W B a (evT C e)
  | .var i, S, X, W, B, sc, c, a, h => (sVar c h).2
  | .lit dd, S, X, W, B, sc, c, a, h => et_bad
  | .cst k, S, X, W, B, sc, c, a, h => et_bad
  | .fnv k, S, X, W, B, sc, c, a, h => et_bad
  | .tup es, S, X, W, B, sc, c, a, h => et_bad
  | .lst es, S, X, W, B, sc, c, a, h => et_bad
  | .bin o x y, S, X, W, B, sc, c, a, h => et_bad
  | .neg x, S, X, W, B, sc, c, a, h => et_bad
  | .not x, S, X, W, B, sc, c, a, h => by
    unfold mE at h
    split at h
    · exact et_not (sT x c h)
    · cases h
  | .and x y, S, X, W, B, sc, c, a, h => by
    unfold mE at h
    split at h
    · simp only [Bool.and_eq_true] at h
      exact ew_et (ew_and (sT x c h.1) (ew_and1 (sT y c h.2)))
    · simp only [Bool.and_eq_true] at h
      exact ew_et (ew_and (sT x c h.1) (sWA y c h.2))
    · cases h
  | .or x y, S, X, W, B, sc, c, a, h => by
    unfold mE at h
    split at h
    · simp only [Bool.and_eq_true] at h
      exact ew_et (ew_or (sT x c h.1) (ew_or1 (sT y c h.2)))
    · simp only [Bool.and_eq_true] at h
      exact ew_et (ew_or (sT x c h.1) (sWO y c h.2))
    · cases h
  | .cmp o x y, S, X, W, B, sc, c, a, h => by
    unfold mE at h
    split at h
    · simp only [Bool.and_eq_true, decide_eq_true_eq] at h
      obtain ⟨⟨⟨h0, h1⟩, h2⟩, h3⟩ := h
      subst h1
      exact et_cmp (om_cmp c.U o) (sE x c h2) (sE y c h3) (nomk h0)
    · cases h
  | .cmp2 o o' x y z, S, X, W, B, sc, c, a, h => by
    unfold mE at h
    split at h
    · simp only [Bool.and_eq_true, decide_eq_true_eq] at h
      obtain ⟨⟨⟨⟨⟨h0, h1⟩, h2⟩, h3⟩, h4⟩, h5⟩ := h
      subst h1
      subst h2
      exact et_cmp2 (om_cmp c.U o) (om_cmp c.U o') (sE x c h3) (sE y c h4) (sE z c h5) (nomk h0)
    · cases h
  | .isn neg x, S, X, W, B, sc, c, a, h => (xIsn (fun h => sE x c h) h).2
  | .ife x y z, S, X, W, B, sc, c, a, h => et_bad
  | .call f es, S, X, W, B, sc, c, a, h => (xCall c (fun h => sEL es c h) (fun x e y h => sES es x e c h) h).2
  | .callv i es, S, X, W, B, sc, c, a, h => (xCallv c (fun h => sEL es c h) h).2
  | .thunk f b, S, X, W, B, sc, c, a, h => et_bad
  | .callT i, S, X, W, B, sc, c, a, h => et_bad
  | .blt b es, S, X, W, B, sc, c, a, h => (xBlt c (fun h => sER es c h) (fun x e y h => sE1 es x .nil e c h) (fun x y e => ⟨fun h => sE1 es x _ e c h, fun h => sE2 es x y e c h⟩) h).2
  | .idx x y, S, X, W, B, sc, c, a, h => (xIdx c (fun h => sE x c h) (fun h => sE y c h) h).2
  | .slc x lo hi, S, X, W, B, sc, c, a, h => et_bad
  | .lc x g it cc, S, X, W, B, sc, c, a, h => et_bad
  | .err i, S, X, W, B, sc, c, a, h => et_bad
  | .dget i j, S, X, W, B, sc, c, a, h => et_bad
  | .lrng1 x, S, X, W, B, sc, c, a, h => et_bad
  | .lrng2 x y, S, X, W, B, sc, c, a, h => et_bad
  | .bad, S, X, W, B, sc, c, a, h => et_bad
theorem sWA : ∀ (e : E) {S : Sg} {X : Cx} {W : WX} {B : Bs} {sc : Scope}, XC T C d S X W B sc → ∀ {l : List Expr} {p : Pos}, mE S e sc (.BoolOp .And l p) = true → EW T X W B (.BoolOp .And l p) (evT C e)
  | .and x y, S, X, W, B, sc, c, l, p, h => by
    unfold mE at h
    split at h
    · rename_i e1
      cases e1
      simp only [Bool.and_eq_true] at h
      exact ew_and (sT x c h.1) (ew_and1 (sT y c h.2))
    · rename_i e1
      cases e1
      simp only [Bool.and_eq_true] at h
      exact ew_and (sT x c h.1) (sWA y c h.2)
    · cases h
  | .bad, S, X, W, B, sc, c, l, p, h => ew_bad
  | .var i, S, X, W, B, sc, c, l, p, h => by unfold mE at h; cases h
  | .lit dd, S, X, W, B, sc, c, l, p, h => by unfold mE at h; cases h
  | .cst k, S, X, W, B, sc, c, l, p, h => by unfold mE at h; cases h
  | .fnv k, S, X, W, B, sc, c, l, p, h => by unfold mE at h; cases h
  | .tup es, S, X, W, B, sc, c, l, p, h => by unfold mE at h; cases h
  | .lst es, S, X, W, B, sc, c, l, p, h => by unfold mE at h; cases h
  | .bin o x y, S, X, W, B, sc, c, l, p, h => by unfold mE at h; cases h
  | .neg x, S, X, W, B, sc, c, l, p, h => by unfold mE at h; cases h
  | .not x, S, X, W, B, sc, c, l, p, h => by unfold mE at h; cases h
  | .or x y, S, X, W, B, sc, c, l, p, h => by unfold mE at h; cases h
  | .cmp o x y, S, X, W, B, sc, c, l, p, h => by unfold mE at h; cases h
  | .cmp2 o o' x y z, S, X, W, B, sc, c, l, p, h => by unfold mE at h; cases h
  | .isn neg x, S, X, W, B, sc, c, l, p, h => by unfold mE at h; cases h
  | .ife x y z, S, X, W, B, sc, c, l, p, h => by unfold mE at h; cases h
  | .call f es, S, X, W, B, sc, c, l, p, h => by unfold mE at h; cases h
  | .callv i es, S, X, W, B, sc, c, l, p, h => by unfold mE at h; cases h
  | .thunk f b, S, X, W, B, sc, c, l, p, h => by unfold mE at h; cases h
  | .callT i, S, X, W, B, sc, c, l, p, h => by unfold mE at h; cases h
  | .blt b es, S, X, W, B, sc, c, l, p, h => by
    unfold mE at h
    split at h
    · split at h
      · rename_i e1; cases e1
      · cases h
    · split at h
      · rename_i e1; cases e1
      · cases h
    · split at h
      · rename_i e1; cases e1
      · cases h
    · split at h
      · rename_i e1; cases e1
      · cases h
    · split at h
      · rename_i e1; cases e1
      · cases h
  | .idx x y, S, X, W, B, sc, c, l, p, h => by unfold mE at h; cases h
  | .slc x lo hi, S, X, W, B, sc, c, l, p, h => by unfold mE at h; cases h
  | .lc x g it cc, S, X, W, B, sc, c, l, p, h => by unfold mE at h; cases h
  | .err i, S, X, W, B, sc, c, l, p, h => by unfold mE at h; cases h
  | .dget i j, S, X, W, B, sc, c, l, p, h => by unfold mE at h; cases h
  | .lrng1 x, S, X, W, B, sc, c, l, p, h => by unfold mE at h; cases h
  | .lrng2 x y, S, X, W, B, sc, c, l, p, h => by unfold mE at h; cases h
theorem sWO : ∀ (e : E) {S : Sg} {X : Cx} {W : WX} {B : Bs} {sc : Scope}, XC T C d S X W B sc → ∀ {l : List Expr} {p : Pos}, mE S e sc (.BoolOp .Or l p) = true → EW T X W B (.BoolOp .Or l p) (evT C e)
  | .or x y, S, X, W, B, sc, c, l, p, h => by
    unfold mE at h
    split at h
    · rename_i e1
      cases e1
      simp only [Bool.and_eq_true] at h
      exact ew_or (sT x c h.1) (ew_or1 (sT y c h.2))
    · rename_i e1
      cases e1
      simp only [Bool.and_eq_true] at h
      exact ew_or (sT x c h.1) (sWO y c h.2)
    · cases h
  | .bad, S, X, W, B, sc, c, l, p, h => ew_bad
  | .var i, S, X, W, B, sc, c, l, p, h => by unfold mE at h; cases h
  | .lit dd, S, X, W, B, sc, c, l, p, h => by unfold mE at h; cases h
  | .cst k, S, X, W, B, sc, c, l, p, h => by unfold mE at h; cases h
  | .fnv k, S, X, W, B, sc, c, l, p, h => by unfold mE at h; cases h
  | .tup es, S, X, W, B, sc, c, l, p, h => by unfold mE at h; cases h
  | .lst es, S, X, W, B, sc, c, l, p, h => by unfold mE at h; cases h
  | .bin o x y, S, X, W, B, sc, c, l, p, h => by unfold mE at h; cases h
  | .neg x, S, X, W, B, sc, c, l, p, h => by unfold mE at h; cases h
  | .not x, S, X, W, B, sc, c, l, p, h => by unfold mE at h; cases h
  | .and x y, S, X, W, B, sc, c, l, p, h => by unfold mE at h; cases h
  | .cmp o x y, S, X, W, B, sc, c, l, p, h => by unfold mE at h; cases h
  | .cmp2 o o' x y z, S, X, W, B, sc, c, l, p, h => by unfold mE at h; cases h
  | .isn neg x, S, X, W, B, sc, c, l, p, h => by unfold mE at h; cases h
  | .ife x y z, S, X, W, B, sc, c, l, p, h => by unfold mE at h; cases h
  | .call f es, S, X, W, B, sc, c, l, p, h => by unfold mE at h; cases h
  | .callv i es, S, X, W, B, sc, c, l, p, h => by unfold mE at h; cases h
  | .thunk f b, S, X, W, B, sc, c, l, p, h => by unfold mE at h; cases h
  | .callT i, S, X, W, B, sc, c, l, p, h => by unfold mE at h; cases h
  | .blt b es, S, X, W, B, sc, c, l, p, h => by
    unfold mE at h
    split at h
    · split at h
      · rename_i e1; cases e1
      · cases h
    · split at h
      · rename_i e1; cases e1
      · cases h
    · split at h
      · rename_i e1; cases e1
      · cases h
    · split at h
      · rename_i e1; cases e1
      · cases h
    · split at h
      · rename_i e1; cases e1
      · cases h
  | .idx x y, S, X, W, B, sc, c, l, p, h => by unfold mE at h; cases h
  | .slc x lo hi, S, X, W, B, sc, c, l, p, h => by unfold mE at h; cases h
  | .lc x g it cc, S, X, W, B, sc, c, l, p, h => by unfold mE at h; cases h
  | .err i, S, X, W, B, sc, c, l, p, h => by unfold mE at h; cases h
  | .dget i j, S, X, W, B, sc, c, l, p, h => by unfold mE at h; cases h
  | .lrng1 x, S, X, W, B, sc, c, l, p, h => by unfold mE at h; cases h
  | .lrng2 x y, S, X, W, B, sc, c, l, p, h => by unfold mE at h; cases h
theorem sE1 : ∀ (es : EL) (x : E) (r : EL) (e : es = .cons x r) {S : Sg} {X : Cx} {W : WX} {B : Bs} {sc : Scope}, XC T C d S X W B sc → ∀ {a : Expr}, mE S x sc a = true → EE T X W B a (evE C x)
  | .nil, x, r, e, S, X, W, B, sc, c, a, h => by cases e
  | .cons y _, x, r, e, S, X, W, B, sc, c, a, h => by
    have q := EL.cons.inj e
    rw [← q.1] at h ⊢
    exact sE y c h
  | .star _ _, x, r, e, S, X, W, B, sc, c, a, h => by cases e
theorem sE2 : ∀ (es : EL) (x y : E) (e : es = .cons x (.cons y .nil)) {S : Sg} {X : Cx} {W : WX} {B : Bs} {sc : Scope}, XC T C d S X W B sc → ∀ {a : Expr}, mE S y sc a = true → EE T X W B a (evE C y)
  | .nil, x, y, e, S, X, W, B, sc, c, a, h => by cases e
  | .cons _ r, x, y, e, S, X, W, B, sc, c, a, h => sE1 r y .nil (EL.cons.inj e).2 c h
  | .star _ _, x, y, e, S, X, W, B, sc, c, a, h => by cases e
theorem sES : ∀ (es : EL) (x : E) (e : es = .star x .nil) {S : Sg} {X : Cx} {W : WX} {B : Bs} {sc : Scope}, XC T C d S X W B sc → ∀ {a : Expr}, mE S x sc a = true → EE T X W B a (evE C x)
  | .nil, x, e, S, X, W, B, sc, c, a, h => by cases e
  | .cons _ _, x, e, S, X, W, B, sc, c, a, h => by cases e
  | .star y r, x, e, S, X, W, B, sc, c, a, h => by
    have q := EL.star.inj e
    rw [← q.1] at h ⊢
    exact sE y c h
theorem sEL : ∀ (es : EL) {S : Sg} {X : Cx} {W : WX} {B : Bs} {sc : Scope}, XC T C d S X W B sc → ∀ {l : List Expr}, mEL S es sc l = true → EA T X W B l (evL C es)
  | .nil, S, X, W, B, sc, c, l, h => by
    unfold mEL at h
    cases l with
    | nil => exact ea_nil
    | cons _ _ => cases h
  | .cons y r, S, X, W, B, sc, c, l, h => by
    unfold mEL at h
    split at h
    · simp only [Bool.and_eq_true] at h
      exact ea_cons (sE y c h.1.2) (sEL r c h.2) h.1.1
    · cases h
  | .star y r, S, X, W, B, sc, c, l, h => by
    unfold mEL at h
    split at h
    · simp only [Bool.and_eq_true] at h
      exact ea_star (sE y c h.1) (sEL r c h.2)
    · cases h
theorem sER : ∀ (es : EL) {S : Sg} {X : Cx} {W : WX} {B : Bs} {sc : Scope}, XC T C d S X W B sc → ∀ {l : List Expr}, mEL S es sc l = true → ER T X W B l (evR C es)
  | .nil, S, X, W, B, sc, c, l, h => by
    unfold mEL at h
    cases l with
    | nil => exact er_nil
    | cons _ _ => cases h
  | .cons y r, S, X, W, B, sc, c, l, h => by
    unfold mEL at h
    split at h
    · simp only [Bool.and_eq_true] at h
      exact er_cons (sE y c h.1.2) (sER r c h.2) h.1.1
    · cases h
  | .star y r, S, X, W, B, sc, c, l, h => er_bad
theorem sO : ∀ (o : O) {S : Sg} {X : Cx} {W : WX} {B : Bs} {sc : Scope}, XC T C d S X W B sc → ∀ {l : Option Expr}, mO S o sc l = true → EO T X W B l (evO C o)
  | .none, S, X, W, B, sc, c, l, h => by
    unfold mO at h
    cases l with
    | none => exact eo_none
    | some _ => cases h
  | .some y, S, X, W, B, sc, c, l, h => by
    unfold mO at h
    split at h
    · exact eo_some (sE y c h)
    · cases h
theorem sOs : ∀ (o : O) {S : Sg} {X : Cx} {W : WX} {B : Bs} {sc : Scope}, XC T C d S X W B sc → ∀ {l : List Expr}, mOs S o sc l = true → ETs T X W B l (evC C o)
  | .none, S, X, W, B, sc, c, l, h => by
    unfold mOs at h
    cases l with
    | nil => exact ets_nil
    | cons _ _ => cases h
  | .some y, S, X, W, B, sc, c, l, h => by
    unfold mOs at h
    split at h
    · exact ets_one (sT y c h)
    · cases h
theorem sI : ∀ (it : I) {S : Sg} {X : Cx} {W : WX} {B : Bs} {sc : Scope}, XC T C d S X W B sc → ∀ {tg iter : Expr}, mI S it sc iter = true → tgOk it tg = true → EI T X W B tg iter (evI C it)
  | .seq y, S, X, W, B, sc, c, tg, iter, h, t => by
    unfold mI at h
    exact ei_seq (sE y c h)
  | .rng1 y, S, X, W, B, sc, c, tg, iter, h, t => by
    unfold mI at h
    split at h
    · simp only [Bool.and_eq_true, decide_eq_true_eq] at h
      obtain ⟨⟨⟨h1, h2⟩, h3⟩, h4⟩ := h
      subst h1
      obtain ⟨g1, g2⟩ := c.bl h2 (by decide +kernel)
      exact ei_rng1 g1 g2 (sE y c h4) h3
    · cases h
  | .rng2 y z, S, X, W, B, sc, c, tg, iter, h, t => by
    unfold mI at h
    split at h
    · simp only [Bool.and_eq_true, decide_eq_true_eq] at h
      obtain ⟨⟨⟨⟨⟨h1, h2⟩, h3⟩, h4⟩, h5⟩, h6⟩ := h
      subst h1
      obtain ⟨g1, g2⟩ := c.bl h2 (by decide +kernel)
      exact ei_rng2 g1 g2 (sE y c h5) (sE z c h6) h3 h4
    · cases h
  | .enum y, S, X, W, B, sc, c, tg, iter, h, t => by
    obtain ⟨es, k, p, rfl⟩ := isTup_of t
    unfold mI at h
    split at h
    · simp only [Bool.and_eq_true, decide_eq_true_eq] at h
      obtain ⟨⟨⟨h1, h2⟩, h3⟩, h4⟩ := h
      subst h1
      obtain ⟨g1, g2⟩ := c.bl h2 (by decide +kernel)
      exact ei_enum g1 g2 (sE y c h4) h3
    · cases h
  | .zip y z, S, X, W, B, sc, c, tg, iter, h, t => by
    obtain ⟨es, k, p, rfl⟩ := isTup_of t
    unfold mI at h
    split at h
    · simp only [Bool.and_eq_true, decide_eq_true_eq] at h
      obtain ⟨⟨⟨⟨⟨h1, h2⟩, h3⟩, h4⟩, h5⟩, h6⟩ := h
      subst h1
      obtain ⟨g1, g2⟩ := c.bl h2 (by decide +kernel)
      exact ei_zip g1 g2 (sE y c h5) (sE z c h6) h3 h4
    · cases h
  | .enumS y k, S, X, W, B, sc, c, tg, iter, h, t => by
    obtain ⟨es, k2, p, rfl⟩ := isTup_of t
    unfold mI at h
    split at h
    · simp only [Bool.and_eq_true, decide_eq_true_eq] at h
      obtain ⟨⟨⟨⟨⟨⟨⟨h1, h2⟩, h3⟩, h4⟩, h5⟩, h6⟩, h7⟩, h8⟩ := h
      subst h1
      subst h4
      subst h5
      obtain ⟨g1, g2⟩ := c.bl h2 (by decide +kernel)
      exact ei_enumS g1 g2 (sE y c h8) h3 h6 h7
    · cases h
  | .rng3 x y z, S, X, W, B, sc, c, tg, iter, h, t => by
    unfold mI at h
    split at h
    · simp only [Bool.and_eq_true, decide_eq_true_eq] at h
      obtain ⟨⟨⟨⟨⟨⟨⟨h1, h2⟩, h3⟩, h4⟩, h5⟩, h6⟩, h7⟩, h8⟩ := h
      subst h1
      obtain ⟨g1, g2⟩ := c.bl h2 (by decide +kernel)
      exact ei_rng3 g1 g2 (sE x c h6) (sE y c h7) (sE z c h8) h3 h4 h5
    · cases h
end
end
end Rf

set_option Elab.async false
set_option linter.all false
set_option maxRecDepth 100000
set_option maxHeartbeats 8000000
/-! R20: statements of the text are these terms. -/
namespace Rf
open PySem PySem.Spec PyProof.Rows L2
/-- names that are stored crosswise: by the right side's own rule -/
def isStar : Expr → Bool
  | .Starred _ _ => true
  | _ => false
def swName (sc : Scope) (line : Nat) : Expr → Option Str
  | .Name id pos => if (sc.names.lookup id == some .local && pos.line == line) = true then some id else none
  | _ => none
def swLine (ts : List Expr) : Nat := (ts.head?.map (·.pos.line)).getD 0
def swNames (sc : Scope) (ts : List Expr) : List Str := ts.filterMap (swName sc (swLine ts))
def swPar (sc : Scope) (ts vs : List Expr) : Option (Option (List Str)) :=
  if (!(ts.length == 2 || ts.length == 3) || vs.length != ts.length || sc.kind != .function) = true then some none else
  if vs.any isStar = true then some none else
  if ((swNames sc ts).length != ts.length || (swNames sc ts).eraseDups.length != (swNames sc ts).length) = true then some none else
  if vs.all (foldedForSure 8) = true then some none else
  if vs.all (constantsAlone 8) = true then none else some (some (swNames sc ts))
theorem sw_eq (env : PySem.Env) (ts vs : List Expr) (k k2 : Nat) (p p2 : Pos) : swappedStores [.Tuple ts k p] (.Tuple vs k2 p2) env =
    (if (!(ts.length == 2 || ts.length == 3) || vs.length != ts.length || env.blockKind != .function) = true then pure none else
     if vs.any isStar = true then pure none else
     if ((swNames env.scope ts).length != ts.length || (swNames env.scope ts).eraseDups.length != (swNames env.scope ts).length) = true then pure none else
     if vs.all (foldedForSure 8) = true then pure none else do
     if vs.all (constantsAlone 8) = true then unsupported "assign.tuple-of-constant-expressions:order-of-the-stores"
     return some (swNames env.scope ts)) := by
  have e1 : (fun e : Expr => match e with | .Starred .. => true | _ => false) = isStar := by
    funext e
    cases e <;> rfl
  have e2 : (fun e : Expr => match e with | .Name id pos => if env.kindOf id == some .local && pos.line == swLine ts then some id else none | _ => none) = swName env.scope (swLine ts) := by
    funext e
    cases e <;> rfl
  unfold swNames
  rw [← e1, ← e2]
  rfl
theorem swPar_ok {env : PySem.Env} {ts vs : List Expr} {k k2 : Nat} {p p2 : Pos} {r : Option (List Str)} (hk : env.scope.kind = .function) (h : swPar env.scope ts vs = some r) : swappedStores [.Tuple ts k p] (.Tuple vs k2 p2) env = pure r := by
  have hb : env.blockKind = env.scope.kind := by
    unfold Env.blockKind
    rw [hk]
    rfl
  rw [sw_eq, hb]
  unfold swPar at h
  split at h
  · rename_i e
    cases h
    rw [if_pos e]
  · rename_i e
    rw [if_neg e]
    split at h
    · rename_i e
      cases h
      rw [if_pos e]
    · rename_i e
      rw [if_neg e]
      split at h
      · rename_i e
        cases h
        rw [if_pos e]
      · rename_i e
        rw [if_neg e]
        split at h
        · rename_i e
          cases h
          rw [if_pos e]
        · rename_i e
          rw [if_neg e]
          split at h
          · cases h
          · rename_i e
            cases h
            rw [if_neg e]
def noTup : Expr → Bool
  | .Tuple _ _ _ => false
  | _ => true
theorem sw_none {env : PySem.Env} {ts : List Expr} {k : Nat} {p : Pos} {v : Expr} (h : noTup v = true) : swappedStores [.Tuple ts k p] v env = pure none := by
  cases v <;> first | rfl | cases h
/-- no comprehension -/
def noComp : Expr → Bool
  | .ListComp _ _ _ _ => false
  | .SetComp _ _ _ _ => false
  | .DictComp _ _ _ _ _ => false
  | _ => true
theorem sw_plain {env : PySem.Env} {v : Expr} {tg : Option Expr} {l : Nat} (h : noComp v = true) : swapsWith v tg l env = pure false := by
  cases v <;> first | rfl | cases h
def swLc (sc : Scope) (x : Str) (p : Pos) (v : Pos) (scope : Scope) : Bool := sc.kind == .function && sc.names.lookup x == some .local && p.line == v.line && !(scope.names.any fun (n, k) => n == x && (k == .local || k == .cell))
theorem sw_lc {env : PySem.Env} {x : Str} {p vp : Pos} {l : Nat} {elt : Expr} {gs : List Comprehension} {scope : Scope} (hk : env.scope.kind = .function) : swapsWith (.ListComp elt gs scope vp) (some (.Name x p)) l env = pure (swLc env.scope x p vp scope) := by
  have hb : env.blockKind = env.scope.kind := by
    unfold Env.blockKind
    rw [hk]
    rfl
  show pure (env.blockKind == .function && env.kindOf x == some .local && p.line == vp.line && !(scope.names.any fun (n, k) => n == x && (k == .local || k == .cell))) = _
  rw [hb]
  rfl
theorem sw_lcT {env : PySem.Env} {ts : List Expr} {k l : Nat} {p vp : Pos} {elt : Expr} {gs : List Comprehension} {scope : Scope} : swapsWith (.ListComp elt gs scope vp) (some (.Tuple ts k p)) l env = pure false := rfl
end Rf

set_option Elab.async false
set_option linter.all false
set_option maxRecDepth 100000
set_option maxHeartbeats 8000000
/-! R21: statements: the test, and what it stands for. -/
namespace Rf
open PySem PySem.Spec PyProof.Rows L2
def allFn : Str → Bool := fun _ => true
/-- for the suite of a clause -/
def Sg.suite (S : Sg) (c : Nat) (nm : Option Nat) (n : Option Str) : Sg := { S with calm := false, lam := false, thk := none, err := match nm, n with
  | some i, some y => (S.F.lookup c).map fun f => (i, y, f)
  | _, _ => none }
def mHL (S : Sg) (sc : Scope) : HL → List ExceptHandler → Bool
  | .nil, hs => hs.isEmpty
  | .cons c nm e r, hs => match hs with
    | .ExceptHandler (some (.Name x _)) n [.Return (some ex) _] _ :: hs => glB sc x && decide (S.G.lookup x = some (.cls c)) && (match nm, n with
        | none, none => true
        | some i, some y => decide (S.N[i]? = some y) && decide (sc.names.lookup y = some .local) && okN y
        | _, _ => false) && mE (S.suite c nm n) e sc ex && mHL S sc r hs
    | _ => false
def mTry (e : E) (S : Sg) (sc : Scope) (rt : Bool) : Stmt → Bool
  | .Return (some v) _ => rt && mE { S with thk := S.tn } e sc v
  | .Expr v _ => !rt && noComp v && mE { S with thk := S.tn } e sc v
  | _ => false
mutual
def mS (Γ : Sg) (sc : Scope) : S → Stmt → Bool
  | .set i e, st => match st with
    | .Assign [.Name x p] v pos => decide (Γ.N[i]? = some x) && locB sc x && mE Γ e sc v && (match v with
        | .ListComp elt gs scope vp => !swLc sc x p vp scope || (match e with | .lc _ _ _ _ => decide (pos.line = pos.line) | _ => false)
        | v => noComp v)
    | _ => false
  | .unp is e, st => match st with
    | .Assign [.Tuple es _ _] v _ => Γ.calm && mGs Γ allFn sc is es && mE Γ e sc v && (match v with
        | .Tuple vs _ _ => decide (swPar sc es vs = some none)
        | v => noTup v && (noComp v || (match v with | .ListComp _ _ _ _ => true | _ => false)))
    | _ => false
  | .par is es, st => match st with
    | .Assign [.Tuple ts _ _] (.Tuple vs _ _) _ => ((match is, ts with
      | [i, j], [.Name x _, .Name y _] => decide (Γ.N[i]? = some x) && decide (Γ.N[j]? = some y) && decide (i ≠ j) && decide (sc.names.lookup x = some .local) && decide (sc.names.lookup y = some .local) && decide (vs.length = 2) && decide (swPar sc ts vs = some (some [x, y])) && mEL Γ es sc vs
      | [i, j, l], [.Name x _, .Name y _, .Name z _] => decide (Γ.N[i]? = some x) && decide (Γ.N[j]? = some y) && decide (Γ.N[l]? = some z) && decide (i ≠ j) && decide (i ≠ l) && decide (j ≠ l) && decide (sc.names.lookup x = some .local) && decide (sc.names.lookup y = some .local) && decide (sc.names.lookup z = some .local) &&
          decide (vs.length = 3) && decide (swPar sc ts vs = some (some [x, y, z])) && mEL Γ es sc vs
      | _, _ => false) || (Γ.calm && mGs Γ allFn sc is ts && decide is.Nodup && decide (is.length ≤ 16777216) && decide (swPar sc ts vs = some none) && mEL Γ es sc vs))
    | _ => false
  | .aug i o e, st => match st with
    | .AugAssign (.Name x _) op v _ => decide (o ≠ .pow) && decide (op = opOf o) && decide (Γ.N[i]? = some x) && locB sc x && mE Γ e sc v
    | _ => false
  | .app i e, st => match st with
    | .Expr (.Call (.Attribute (.Name x _) a apos) [v] [] cpos) _ => decide (a = "append") && nmB Γ sc i x && noStar v && decide (apos.endLine = cpos.line) && mE Γ e sc v
    | _ => false
  | .ext i e, st => match st with
    | .Expr (.Call (.Attribute (.Name x _) a apos) [v] [] cpos) _ => decide (a = "extend") && nmB Γ sc i x && noStar v && decide (apos.endLine = cpos.line) && mE Γ e sc v
    | _ => false
  | .ins i y e, st => match st with
    | .Expr (.Call (.Attribute (.Name x _) a apos) [u, v] [] cpos) _ => decide (a = "insert") && nmB Γ sc i x && noStar u && noStar v && decide (apos.endLine = cpos.line) && mE Γ y sc u && mE Γ e sc v
    | _ => false
  | .unpg ts e, st => match st with
    | .Assign [.Tuple es k p] v _ => Γ.calm && mG Γ allFn sc (.nest ts) (.Tuple es k p) && mE Γ e sc v && noTup v && noComp v
    | _ => false
  | .pop i, st => match st with
    | .Expr (.Call (.Attribute (.Name x _) a apos) [] [] cpos) _ => decide (a = "pop") && nmB Γ sc i x && decide (apos.endLine = cpos.line)
    | _ => false
  | .dset i j e, st => match st with
    | .Assign [.Subscript (.Name x _) (.Constant (.int k) _ _) _] v _ => nmB Γ sc i x && decide (k = (j : Int)) && mE Γ e sc v
    | _ => false
  | .iff c a b, st => match st with
    | .If x y z _ => mE Γ c sc x && mSL Γ sc a y && mSL Γ sc b z
    | _ => false
  | .whl c b, st => match st with
    | .While x y [] _ => mE Γ c sc x && mSL Γ sc b y
    | _ => false
  | .for_ g it b, st => match st with
    | .For tg iter y [] _ => notSet iter && mI Γ it sc iter && tgOk it tg && mG Γ allFn sc g tg && mSL Γ sc b y
    | _ => false
  | .ret e, st => match st with
    | .Return (some v) _ => mE Γ e sc v
    | _ => false
  | .retN, st => match st with
    | .Return none _ => true
    | _ => false
  | .expr e, st => match st with
    | .Expr v _ => noComp v && mE Γ e sc v
    | _ => false
  | .raise0 c, st => match st with
    | .Raise (some (.Call (.Name x _) [.Constant (.str _) _ _] [] _)) none _ => glB sc x && decide (Γ.G.lookup x = some (.cls c)) && (Γ.F.lookup c).isNone
    | _ => false
  | .raise1 c e, st => match st with
    | .Raise (some (.Call (.Name x _) [v] [] _)) none _ => glB sc x && decide (Γ.G.lookup x = some (.cls c)) && (Γ.F.lookup c).isSome && noStar v && mE Γ e sc v
    | _ => false
  | .tryc rt e hs, st => match st with
    | .Try [b] (h :: r) [] [] _ => mTry e Γ sc rt b && mHL Γ sc hs (h :: r)
    | _ => false
  | .brk, st => match st with
    | .Break _ => true
    | _ => false
  | .cont, st => match st with
    | .Continue _ => true
    | _ => false
  | .pass, st => match st with
    | .Pass _ => true
    | .Expr (.Constant (.str _) _ _) _ => true
    | _ => false
  | .bad, _ => true
def mSL (Γ : Sg) (sc : Scope) : SL → List Stmt → Bool
  | .nil, l => l.isEmpty
  | .cons s r, l => match l with
    | st :: sts => mS Γ sc s st && mSL Γ sc r sts
    | [] => false
  | .frz _ r, l => mSL Γ sc r l
  | .kill _ r, l => mSL Γ sc r l
end
structure XS (T : Tab) (C : Ctx) (d : Nat) (S : Sg) (X : Cx) (W : WX) (B : Bs) (sc : Scope) : Prop extends XC T C d S X W B sc where
  hc : X.calm = true
  stk : X.stack = X.env :: X.outer
  frm : X.env.frame = some X.env.locals
  po : PassesOwn (model X.prog X.w) X.A X.env X.xe
  fn : X.fn = fun _ => true
  kind : X.env.scope.kind = .function
  ne : S.err = none
  tt : ∀ x, S.tn = some x → ThOk T X x 0 B C.thk
  fs : ∀ c, T.cf c = S.F.lookup c
  gk : ∀ x c, S.G.lookup x = some (.cls c) → ∃ a, X.mg x = some (.ref a) ∧ T.ca c = some a
  sub : ∀ c h C1 D1, T.ca c = some C1 → T.ca h = some D1 → PySem.W.exmOne X.K (.ref C1) (.ref D1) = some (C.sub c h)
  fld : ∀ c C1 f, T.ca c = some C1 → T.cf c = some f → XfC X.K C1 ∧ PySem.W.findIn X.K (.ref C1) f = some none
  r0 : ∀ c C1, T.ca c = some C1 → T.cf c = none → ∀ (x m : Str) (j : Nat) (p p2 pos : Pos), X.mg x = some (.ref C1) → Gl X x → (x == ("__debug__" : Str)) = false → PMk X (.Call (.Name x p) [.Constant (.str m) j p2] [] pos) fun _ H Q => Q (.ref C1) none H
  r1 : ∀ c C1 f, T.ca c = some C1 → T.cf c = some f → ∀ (x : Str) (p pos : Pos) (e : Expr) (te : TE), X.mg x = some (.ref C1) → Gl X x → (x == ("__debug__" : Str)) = false → PE X e te → noStar e = true →
    PMk X (.Call (.Name x p) [e] [] pos) fun σ H Q => te σ H fun v H1 => ∀ dx, H1 dx = none → Q (.ref C1) (some dx) (upd H1 dx (.xd [(f, v)]))
section
variable {T : Tab} {C : Ctx} {d : Nat} {S : Sg} {X : Cx} {W : WX} {B : Bs} {sc : Scope}
theorem XS.fnOk (c : XS T C d S X W B sc) : ∀ x, allFn x = true → X.fn x = true := fun x _ => by rw [c.fn]
theorem XS.tr (c : XS T C d S X W B sc) {pn : List (Addr × Obj)} {xe : Value → Shared → Prop} {W' : WX} (tk : Takes (X.tr pn xe) W') : XC T C d { S with thk := S.tn } (X.tr pn xe) W' B sc where
  U := ⟨c.U.un, c.U.gd⟩
  calm := c.calm
  nd := c.nd
  N := c.N
  sc := c.sc
  tk := tk
  gf := c.gf
  gc := c.gc
  gn := c.gn
  fns := c.fns
  thf := c.thf
  room := c.room
  wrap := c.wrap
  lam := c.lam
  th := fun x e p1 p2 => c.tt x e pn xe W' p1 p2 tk
  er := fun i x f e p1 p2 => by
    have e : S.err = some (i, x, f) := e
    rw [c.ne] at e
    cases e
theorem XS.suite (c : XS T C d S X W B sc) {h : Nat} {nm : Option Nat} {n : Option Str} (hn : (n = none ∧ nm = none) ∨ ∃ y i, n = some y ∧ nm = some i ∧ X.N[i]? = some y ∧ X.env.kindOf y = some .local) (hok : ∀ y, n = some y → okN y = true) {a : Addr} {oe : Obj} {cls : Value} {dd : Option Addr} {pn : List (Addr × Obj)} {B' : Bs} {cc : Nat} {k : Option PyData}
    (hz : Zc cls dd oe) (hf : ∃ vs, oe.data = .fields vs) (hb : B'.th = some a) (hg : Good T B'.g B'.H) (ev : ExcV X.K T B'.g B'.H cls dd cc k) :
    XC T { C with err := kept (cc == h && nm.isSome) k } d (S.suite h nm n) (X.suite a ((a, oe) :: pn)) W0 B' sc where
  U := ⟨c.U.un, c.U.gd⟩
  calm := fun z => by cases z
  nd := c.nd
  N := c.N
  sc := c.sc
  tk := takes_none5
  gf := c.gf
  gc := c.gc
  gn := c.gn
  fns := c.fns
  thf := c.thf
  room := fun z => by cases z
  wrap := c.wrap
  lam := fun z => by cases z
  th := fun _ z => by cases z
  er := fun i x f e p1 p2 => by
    rcases hn with ⟨rfl, rfl⟩ | ⟨y, j, rfl, rfl, hj, hl⟩
    · cases e
    · obtain ⟨f', e1, e2⟩ := Option.map_eq_some_iff.mp (show (S.F.lookup h).map (fun f => (j, y, f)) = some (i, x, f) from e)
      obtain ⟨o1, o2⟩ := okN_of (hok y rfl)
      have q1 : j = i := congrArg (fun p : Nat × Str × Str => p.1) e2
      have q2 : y = x := congrArg (fun p : Nat × Str × Str => p.2.1) e2
      have q3 : f' = f := congrArg (fun p : Nat × Str × Str => p.2.2) e2
      subst q1
      subst q2
      subst q3
      obtain ⟨C1, eC, rfl, ev⟩ := ev
      have hv : Vis X.env.scope y := .inl hl
      refine ⟨fun pins s σ H Q I hh => ?_⟩
      obtain ⟨g, sd, S1, hw⟩ := hh
      have hw : (thkAt (kept (cc == h && true) k) j sd).wp (PR X.K T B' σ sd Q g H) (PX X.K T B' W0 σ sd g H) := hw
      unfold thkAt at hw
      split at hw
      case h_2 => exact False.elim hw
      rename_i es
      obtain ⟨v, e2, b, rfl, e3⟩ := S1.slots j _ es
      rw [hb] at e3
      cases e3
      obtain ⟨hq, hw2⟩ := wp_guard hw
      obtain ⟨kd, ek, hw3⟩ := wp_ofOpt hw2
      have hw4 : PR X.K T B' σ sd Q g H (.v (.p kd)) := hw3
      clear hw hw2 hw3
      have hq : cc = h := by simpa using hq
      subst hq
      rcases ev with ⟨_, z, _⟩ | ⟨f2, x2, dx, v, c1, c2, c3, c4, c5⟩
      · rw [z] at ek
        cases ek
      · rw [c2] at ek
        cases ek
        rw [c.fs cc, e1] at c1
        obtain rfl := Option.some.inj c1
        obtain ⟨F1, F2⟩ := c.fld cc C1 f' eC (by rw [c.fs cc]; exact e1)
        refine (pe_xf (te := tVar j) F1 F2 hz hf (pe_var (X := X.suite a ((a, oe) :: pn)) hj hv o1 o2)).run pins s σ H Q I ⟨_, e2, rfl, rfl, dx, [(f', v)], v, c3, ?_, by simp [List.lookup], ?_⟩
        · refine S1.base.hp dx _ c4 (fun dd => ?_) fun ps z => by cases z
          obtain ⟨_, i1, i2, i3, z⟩ := hg.dc dx dd
          rw [c4] at z
          cases z
        · exact hw4 v g H .refl S1 (.p (c5.mono S1.base.z))
end
end Rf

set_option Elab.async false
set_option linter.all false
set_option maxRecDepth 100000
set_option maxHeartbeats 8000000
/-! R22: statements: what the matcher accepts, does what its term says. -/
namespace Rf
open PySem PySem.Spec PyProof.Rows L2
def hlOf (C : Ctx) : HL → Hsl
  | .nil => []
  | .cons c nm e r => (c, nm, fun m => evE { C with err := m } e) :: hlOf C r
theorem evH_eq (C : Ctx) (c : Nat) (k : Option PyData) : ∀ (hs : HL) (σ : Sl), evH C c k hs σ = hsM C.sub (hlOf C hs) c k σ
  | .nil, _ => rfl
  | .cons h nm e r, σ => by
    show cond (C.sub c h) _ (evH C c k r σ) = cond (C.sub c h) _ (hsM C.sub (hlOf C r) c k σ)
    rw [evH_eq C c k r σ]
theorem len2 {α : Type} : ∀ {l : List α}, l.length = 2 → ∃ a b, l = [a, b]
  | [a, b], _ => ⟨a, b, rfl⟩
  | [], h => by cases h
  | [_], h => by cases h
  | _ :: _ :: _ :: _, h => by simp at h
theorem len3 {α : Type} : ∀ {l : List α}, l.length = 3 → ∃ a b c, l = [a, b, c]
  | [a, b, c], _ => ⟨a, b, c, rfl⟩
  | [], h => by cases h
  | [_], h => by cases h
  | [_, _], h => by cases h
  | _ :: _ :: _ :: _ :: _, h => by simp at h
section
variable {T : Tab} {C : Ctx} {d : Nat} {S : Sg} {X : Cx} {W : WX} {B : Bs} {sc : Scope}
theorem sHL (c : XS T C d S X W B sc) : ∀ {hs : HL} {l : List ExceptHandler}, mHL S sc hs l = true → HsOk T X l (hlOf C hs)
  | .nil, l, h => by
    unfold mHL at h
    cases l with
    | nil => exact .nil
    | cons _ _ => cases h
  | .cons h0 nm e r, l, h => by
    unfold mHL at h
    split at h
    · rename_i x np n ex p2 p3 hs
      simp only [Bool.and_eq_true, decide_eq_true_eq] at h
      obtain ⟨⟨⟨⟨h1, h2⟩, h3⟩, h4⟩, h5⟩ := h
      obtain ⟨C1, g1, g2⟩ := c.gk _ _ h2
      have hn : ((n = none ∧ nm = none) ∨ ∃ y i, n = some y ∧ nm = some i ∧ X.N[i]? = some y ∧ X.env.kindOf y = some .local) ∧ ∀ y, n = some y → okN y = true := by
        split at h3
        · exact ⟨.inl ⟨rfl, rfl⟩, fun _ z => by cases z⟩
        · rename_i i y
          simp only [Bool.and_eq_true, decide_eq_true_eq] at h3
          refine ⟨.inr ⟨y, i, rfl, rfl, by rw [c.N]; exact h3.1.1, ?_⟩, fun _ z => by cases z; exact h3.2⟩
          show X.env.scope.names.lookup y = _
          rw [c.sc]
          exact h3.1.2
        · cases h3
      refine .cons ⟨c.gl h1, (glB_of h1).2, .inl g1⟩ g2 hn.1 (fun a oe cls d' pn B' cc k hz hf hb hg ev => ?_) (sHL c h5)
      exact sE e (c.suite hn.1 hn.2 hz hf hb hg ev) h4
    · cases h
theorem sTry (c : XS T C d S X W B sc) {rt : Bool} {e : E} {hs : HL} {b : Stmt} {h₀ : ExceptHandler} {r : List ExceptHandler} {pos : Pos} (h1 : mTry e S sc rt b = true) (h2 : mHL S sc hs (h₀ :: r) = true) : ES T X W B (.Try [b] (h₀ :: r) [] [] pos) (evS C (.tryc rt e hs)) := by
  have eh : evS C (.tryc rt e hs) = tryM rt (evE C e) (hsM C.sub (hlOf C hs)) := by
    have q : (fun c k => evH C c k hs) = hsM C.sub (hlOf C hs) := by
      funext cc k σ
      exact evH_eq C cc k hs σ
    funext σ
    show tryM rt (evE C e) (fun c k => evH C c k hs) σ = _
    rw [q]
  rw [eh]
  have go : ∀ {v : Expr} {p : Pos}, mE { S with thk := S.tn } e sc v = true → (rt = false → swapsWith v none p.line X.env = pure false) → ES T X W B (.Try [tryB rt v p] (h₀ :: r) [] [] pos) (tryM rt (evE C e) (hsM C.sub (hlOf C hs))) := fun hv hsw =>
    es_try c.nd c.stk c.frm c.tk (fun W' pn xe tk => sE e (c.tr tk) hv) hsw (fun c1 h C1 D1 e1 e2 _ => c.sub c1 h C1 D1 e1 e2) (sHL c h2)
  unfold mTry at h1
  split at h1
  · rename_i v p
    simp only [Bool.and_eq_true] at h1
    obtain ⟨h1, h3⟩ := h1
    subst h1
    exact go h3 fun z => by cases z
  · rename_i v p
    simp only [Bool.and_eq_true, Bool.not_eq_true'] at h1
    obtain ⟨⟨h1, h4⟩, h3⟩ := h1
    subst h1
    exact go h3 fun _ => sw_plain h4
  · cases h1
theorem xSet (c : XS T C d S X W B sc) {i : Nat} {x : Str} {p vp pos : Pos} {elt : Expr} {gs : List Comprehension} {scope : Scope} {y : E} {g : G} {it : I} {cc : O} (h1 : S.N[i]? = some x) (hq : swLc sc x p vp scope = true) (h3 : mE S (.lc y g it cc) sc (.ListComp elt gs scope vp) = true) :
    ES T X W B (.Assign [.Name x p] (.ListComp elt gs scope vp) pos) (evS C (.set i (.lc y g it cc))) := by
  unfold mE at h3
  split at h3
  · rename_i e1
    cases e1
    simp only [Bool.and_eq_true, decide_eq_true_eq] at h3
    obtain ⟨⟨⟨⟨⟨⟨⟨⟨⟨h1', h2⟩, h3⟩, h4⟩, h5⟩, h6⟩, h7⟩, h8⟩, h9⟩, h10⟩ := h3
    subst h2
    have hl : X.env.scope.names.lookup x = some .local := by
      unfold swLc at hq
      simp only [Bool.and_eq_true, beq_iff_eq] at hq
      rw [c.sc]
      exact hq.1.1.2
    exact es_setLc (lc_asg c.hc c.nd (sI it c.toXC h4 h5) (by rw [c.N, c.sc]; exact blkOk_by h7) h8 (fun s H D cl fp => mG_ok (c.toXC.blk h1' s H _ cl D fp) (fun _ z => z) h6) (fun s H D cl fp => sOs cc (c.toXC.blk h1' s H _ cl D fp) h9) (fun s H D cl fp => sE y (c.toXC.blk h1' s H _ cl D fp) h10) (set_ok h3)
      (by rw [c.N]; exact h1) hl (by rw [sw_lc c.kind, c.sc, hq]))
  · cases h3
mutual
theorem sS : ∀ (s : Rf.S) {st : Stmt}, XS T C d S X W B sc → mS S sc s st = true → ES T X W B st (evS C s)
  | .set i e, st, c, h => by
    unfold mS at h
    split at h
    · rename_i x p v pos
      simp only [Bool.and_eq_true, decide_eq_true_eq] at h
      obtain ⟨⟨⟨h1, h2⟩, h3⟩, h4⟩ := h
      have hx : Loc X.env.scope x := by rw [c.sc]; exact locB_of h2
      have plain : swapsWith v (some (.Name x p)) pos.line X.env = pure false → ES T X W B (.Assign [.Name x p] v pos) (evS C (.set i e)) := fun hs =>
        es_set c.nd (by rw [c.N]; exact h1) hx (.inl (by rw [c.fn])) (sE e c.toXC h3) hs
      split at h4
      · rename_i elt gs scope vp
        cases hq : swLc sc x p vp scope with
        | false =>
          refine plain ?_
          rw [sw_lc c.kind, c.sc, hq]
        | true =>
          rw [hq] at h4
          split at h4
          · rename_i y g it cc
            exact xSet c h1 hq h3
          · cases h4
      · exact plain (sw_plain h4)
    · cases h
  | .unp is e, st, c, h => by
    unfold mS at h
    split at h
    · rename_i es k p v pos
      simp only [Bool.and_eq_true] at h
      obtain ⟨⟨⟨h1, h2⟩, h3⟩, h4⟩ := h
      have hg : EG X (.Tuple es k p) (.names is) := eg_tup (c.calm h1) (mGs_ok c.toXC c.fnOk h2)
      split at h4
      · exact es_unp hg (sE e c.toXC h3) rfl (swPar_ok c.kind (by rw [c.sc]; exact of_decide_eq_true h4)) rfl
      · simp only [Bool.and_eq_true, Bool.or_eq_true] at h4
        refine es_unp hg (sE e c.toXC h3) ?_ (sw_none h4.1) rfl
        show swapsWith v (some (.Tuple es k p)) pos.line X.env = _
        rcases h4.2 with q | q
        · exact sw_plain q
        · split at q
          · rfl
          · cases q
    · cases h
  | .par is es, st, c, h => by
    unfold mS at h
    split at h
    · rename_i ts k p vs k2 p2 pos
      rcases Bool.or_eq_true _ _ ▸ h with h | h
      · split at h
        · rename_i i j x px y py
          simp only [Bool.and_eq_true, decide_eq_true_eq] at h
          obtain ⟨⟨⟨⟨⟨⟨⟨h1, h2⟩, h3⟩, h4⟩, h5⟩, h6⟩, h7⟩, h8⟩ := h
          obtain ⟨a, b, rfl⟩ := len2 h6
          exact es_par2 c.hc c.nd (by rw [c.N]; exact h1) (by rw [c.N]; exact h2) h3 (by rw [c.sc]; exact h4) (by rw [c.sc]; exact h5) (sER es c.toXC h8) (swPar_ok c.kind (by rw [c.sc]; exact h7))
        · rename_i i j l x px y py z pz
          simp only [Bool.and_eq_true, decide_eq_true_eq] at h
          obtain ⟨⟨⟨⟨⟨⟨⟨⟨⟨⟨⟨h1, h2⟩, h2'⟩, h3⟩, h3'⟩, h3''⟩, h4⟩, h5⟩, h5'⟩, h6⟩, h7⟩, h8⟩ := h
          obtain ⟨a, b, c', rfl⟩ := len3 h6
          exact es_par3 c.hc c.nd (by rw [c.N]; exact h1) (by rw [c.N]; exact h2) (by rw [c.N]; exact h2') h3 h3' h3'' (by rw [c.sc]; exact h4) (by rw [c.sc]; exact h5) (by rw [c.sc]; exact h5') (sER es c.toXC h8) (swPar_ok c.kind (by rw [c.sc]; exact h7))
        · cases h
      · simp only [Bool.and_eq_true, decide_eq_true_eq] at h
        obtain ⟨⟨⟨⟨⟨h1, h2⟩, h3⟩, h4⟩, h5⟩, h6⟩ := h
        exact es_parT (eg_tup (c.calm h1) (mGs_ok c.toXC c.fnOk h2)) (sER es c.toXC h6) h3 h4 rfl (swPar_ok c.kind (by rw [c.sc]; exact h5)) rfl
    · cases h
  | .aug i o e, st, c, h => by
    unfold mS at h
    split at h
    · simp only [Bool.and_eq_true, decide_eq_true_eq] at h
      obtain ⟨⟨⟨⟨h1, h2⟩, h3⟩, h4⟩, h5⟩ := h
      subst h2
      exact es_aug h1 c.nd (by rw [c.N]; exact h3) (by rw [c.sc]; exact locB_of h4) (.inl (by rw [c.fn])) (sE e c.toXC h5)
    · cases h
  | .dset i j e, st, c, h => by
    unfold mS at h
    split at h
    · simp only [Bool.and_eq_true, decide_eq_true_eq] at h
      obtain ⟨⟨h1, rfl⟩, h3⟩ := h
      obtain ⟨n1, n2, n3, n4⟩ := c.nm h1
      exact es_dset n1 n2 n3 n4 (sE e c.toXC h3)
    · cases h
  | .app i e, st, c, h => by
    unfold mS at h
    split at h
    · simp only [Bool.and_eq_true, decide_eq_true_eq] at h
      obtain ⟨⟨⟨⟨h1, h2⟩, h3⟩, h4⟩, h5⟩ := h
      subst h1
      obtain ⟨n1, n2, n3, n4⟩ := c.nm h2
      exact es_app n1 n2 n3 n4 (sE e c.toXC h5) h3 rfl (by simpa using h4)
    · cases h
  | .ext i e, st, c, h => by
    unfold mS at h
    split at h
    · simp only [Bool.and_eq_true, decide_eq_true_eq] at h
      obtain ⟨⟨⟨⟨h1, h2⟩, h3⟩, h4⟩, h5⟩ := h
      subst h1
      obtain ⟨n1, n2, n3, n4⟩ := c.nm h2
      exact es_ext n1 n2 n3 n4 (sE e c.toXC h5) h3 rfl (by simpa using h4)
    · cases h
  | .ins i y e, st, c, h => by
    unfold mS at h
    split at h
    · simp only [Bool.and_eq_true, decide_eq_true_eq] at h
      obtain ⟨⟨⟨⟨⟨⟨h1, h2⟩, h3⟩, h4⟩, h5⟩, h6⟩, h7⟩ := h
      subst h1
      obtain ⟨n1, n2, n3, n4⟩ := c.nm h2
      exact es_ins n1 n2 n3 n4 (sE y c.toXC h6) (sE e c.toXC h7) h3 h4 rfl (by simpa using h5)
    · cases h
  | .unpg ts e, st, c, h => by
    unfold mS at h
    split at h
    · rename_i es k p v pos
      simp only [Bool.and_eq_true] at h
      obtain ⟨⟨⟨⟨h1, h2⟩, h3⟩, h4⟩, h5⟩ := h
      exact es_unpg (mG_ok c.toXC c.fnOk h2) (sE e c.toXC h3) (by show swapsWith v (some (.Tuple es k p)) pos.line X.env = _; exact sw_plain h5) (sw_none h4) rfl
    · cases h
  | .pop i, st, c, h => by
    unfold mS at h
    split at h
    · simp only [Bool.and_eq_true, decide_eq_true_eq] at h
      obtain ⟨⟨h1, h2⟩, h3⟩ := h
      subst h1
      obtain ⟨n1, n2, n3, n4⟩ := c.nm h2
      exact es_pop n1 n2 n3 n4 rfl (by simpa using h3)
    · cases h
  | .iff x a b, st, c, h => by
    unfold mS at h
    split at h
    · simp only [Bool.and_eq_true] at h
      exact es_iff (sT x c.toXC h.1.1) (sSL a c h.1.2) (sSL b c h.2)
    · cases h
  | .whl x b, st, c, h => by
    unfold mS at h
    split at h
    · simp only [Bool.and_eq_true] at h
      exact es_whl c.po (sT x c.toXC h.1) (sSL b c h.2)
    · cases h
  | .for_ g it b, st, c, h => by
    unfold mS at h
    split at h
    · simp only [Bool.and_eq_true] at h
      obtain ⟨⟨⟨⟨h1, h2⟩, h3⟩, h4⟩, h5⟩ := h
      exact es_for c.po c.hc (sI it c.toXC h2 h3) (mG_ok c.toXC c.fnOk h4) (sSL b c h5) (set_ok h1)
    · cases h
  | .ret e, st, c, h => by
    unfold mS at h
    split at h
    · exact es_ret (sE e c.toXC h)
    · cases h
  | .retN, st, c, h => by
    unfold mS at h
    split at h
    · exact es_retN
    · cases h
  | .expr e, st, c, h => by
    unfold mS at h
    split at h
    · simp only [Bool.and_eq_true] at h
      exact es_expr (sE e c.toXC h.2) (sw_plain h.1)
    · cases h
  | .raise0 k, st, c, h => by
    unfold mS at h
    split at h
    · simp only [Bool.and_eq_true, decide_eq_true_eq, Option.isNone_iff_eq_none] at h
      obtain ⟨⟨h1, h2⟩, h3⟩ := h
      obtain ⟨C1, g1, g2⟩ := c.gk _ _ h2
      have hf : T.cf k = none := by rw [c.fs]; exact h3
      exact es_raise0 c.hc c.tk g2 hf (c.r0 k C1 g2 hf _ _ _ _ _ _ g1 (c.gl h1) (glB_of h1).2)
    · cases h
  | .raise1 k e, st, c, h => by
    unfold mS at h
    split at h
    · simp only [Bool.and_eq_true, decide_eq_true_eq] at h
      obtain ⟨⟨⟨⟨h1, h2⟩, h3⟩, h4⟩, h5⟩ := h
      obtain ⟨C1, g1, g2⟩ := c.gk _ _ h2
      obtain ⟨f, ef⟩ := Option.isSome_iff_exists.mp h3
      have hf : T.cf k = some f := by rw [c.fs]; exact ef
      exact es_raise1 c.hc c.tk g2 hf (c.r1 k C1 f g2 hf _ _ _ _ _ g1 (c.gl h1) (glB_of h1).2 (sE e c.toXC h5) h4)
    · cases h
  | .tryc rt e hs, st, c, h => by
    unfold mS at h
    split at h
    · simp only [Bool.and_eq_true] at h
      exact sTry c h.1 h.2
    · cases h
  | .brk, st, c, h => by
    unfold mS at h
    split at h
    · exact es_brk
    · cases h
  | .cont, st, c, h => by
    unfold mS at h
    split at h
    · exact es_cont
    · cases h
  | .pass, st, c, h => by
    unfold mS at h
    split at h
    · exact es_pass
    · exact es_doc
    · cases h
  | .bad, st, c, h => es_bad
theorem sSL : ∀ (s : SL) {l : List Stmt}, XS T C d S X W B sc → mSL S sc s l = true → ESs T X W B l (evSL C s)
  | .nil, l, c, h => by
    unfold mSL at h
    cases l with
    | nil => exact es_nil
    | cons _ _ => cases h
  | .cons s r, l, c, h => by
    unfold mSL at h
    split at h
    · simp only [Bool.and_eq_true] at h
      exact es_cons (sS s c h.1) (sSL r c h.2)
    · cases h
  | .frz i r, l, c, h => by
    unfold mSL at h
    exact es_frz (sSL r c h)
  | .kill i r, l, c, h => by
    unfold mSL at h
    exact es_kill (sSL r c h)
end
end
end Rf

set_option Elab.async false
set_option linter.all false
set_option maxRecDepth 100000
set_option maxHeartbeats 8000000
/-! R23: all defs of a text keep what their terms say. -/
namespace Rf
open PySem PySem.Spec PyProof.Rows L2
/-- what the text says of a def: its names, its parameters, its body -/
inductive DefOk (K : PySem.W.Frag) (mg : Str → Option Value) (base : Heap) (T : Tab) (Γ : Sg) (a : Addr) (ps : List Str) (ns : Nat) (b : SL) : Prop
  | mk {name qual : Str} {params : Arguments} {body : List Stmt} {scope : Scope} {dV kV doc pm cdv ct oc : Value} {an od : Option Addr} {osl : Array (Option Value)}
    (lk : K.lookup a = some ⟨oc, od, .func (PySem.W.fnOf name qual params body scope dV kV doc pm an cdv ct), osl⟩) (hcd : PySem.W.codeIn K cdv qual = true) (S : FnScope Γ.N ps scope)
    (hb : ∀ us : List Value, us.length = ps.length → bindArgs (PySem.W.fnOf name qual params body scope dV kV doc pm an cdv ct) ⟨us, []⟩ = pure (ps.zip us)) (hns : Γ.N.length = ns) (hm : mSL Γ scope b body = true)
    (hl : Γ.lam = true → ∃ c P, cdv = .ref c ∧ LamX.TabB base mg c P ∧ (P, qual ++ ".<locals>." ++ "<lambda>") ∈ T.tb ∧ ∀ p ∈ T.tb, p.1 = P → p.2 = qual ++ ".<locals>." ++ "<lambda>")
    (h1 : Γ.calm = true) (h2 : Γ.thk = none) (h3 : Γ.err = none) (ht : ∀ x, Γ.tn = some x → Vis scope x) : DefOk K mg base T Γ a ps ns b
/-- a body that makes the dice; one that draws a number -/
def DiceB (V : Wrl) (ns : Nat) (b : SL) : Prop := ∀ (call : Nat → List Val → M Res) (callT : Nat → M Res → M Res) (xs : List PyData) (i : Int), intList xs = true → 0 ≤ i → i < 1000 →
  ((evSL (V.ctx call callT .stuck) b (startSl ns [.p (.list xs), .p (.int i)])).bind flRes).wp (fun r => ∃ x y z, r = .l true [.int x, .int y, .int z]) fun _ _ => False
def RollB (V : Wrl) (ns : Nat) (b : SL) : Prop := ∀ (call : Nat → List Val → M Res) (callT : Nat → M Res → M Res) (n : Int), 0 < n → n < 1073741824 →
  ((evSL (V.ctx call callT .stuck) b (startSl ns [.dice, .p (.int n)])).bind flRes).wp (fun r => ∃ i, r = rI i ∧ 0 ≤ i ∧ i < n) fun _ _ => False
/-- the text's own facts -/
structure Wd (P : Program) (w : World) (K : PySem.W.Frag) (mg : Str → Option Value) (base : Heap) (T : Tab) (V : Wrl) (G : List (Str × GV)) (F : List (Nat × Str)) : Prop where
  gf : ∀ x i, G.lookup x = some (.fn i) → ∃ a, mg x = some (.ref a) ∧ T.fa i = some a
  gc : ∀ x k, G.lookup x = some (.cst k) → ∃ u v, mg x = some u ∧ RelV v u ∧ ∀ g, Rep K T g v (.p (V.cst.getD k .none))
  gk : ∀ x c, G.lookup x = some (.cls c) → ∃ a, mg x = some (.ref a) ∧ T.ca c = some a
  gn : ∀ x, x ∈ bltNames → G.lookup x = none → mg x = none
  kp : ∀ i a, T.fa i = some a → PySem.W.keepIn K (.ref a) = true
  fs : ∀ c, T.cf c = F.lookup c
  sub : ∀ c h C1 D1, T.ca c = some C1 → T.ca h = some D1 → PySem.W.exmOne K (.ref C1) (.ref D1) = some (V.sub.contains (c, h))
  fld : ∀ c C1 f, T.ca c = some C1 → T.cf c = some f → XfC K C1 ∧ PySem.W.findIn K (.ref C1) f = some none
  r0 : ∀ X : Cx, X.prog = P → X.K = K → X.mg = mg → ∀ c C1, T.ca c = some C1 → T.cf c = none → ∀ (x m : Str) (j : Nat) (p p2 pos : Pos), X.mg x = some (.ref C1) → Gl X x → (x == ("__debug__" : Str)) = false → PMk X (.Call (.Name x p) [.Constant (.str m) j p2] [] pos) fun _ H Q => Q (.ref C1) none H
  r1 : ∀ X : Cx, X.prog = P → X.K = K → X.mg = mg → Room 1 X.A → ∀ c C1 f, T.ca c = some C1 → T.cf c = some f → ∀ (x : Str) (p pos : Pos) (e : Expr) (te : TE), X.mg x = some (.ref C1) → Gl X x → (x == ("__debug__" : Str)) = false → PE X e te → noStar e = true →
    PMk X (.Call (.Name x p) [e] [] pos) fun σ H Q => te σ H fun v H1 => ∀ dx, H1 dx = none → Q (.ref C1) (some dx) (upd H1 dx (.xd [(f, v)]))
  defs : ∀ i a, T.fa i = some a → match V.defs[i]? with
    | some (.body np ns b) => ∃ Γ ps, Γ.G = G ∧ Γ.F = F ∧ Γ.tn = none ∧ ps.length = np ∧ DefOk K mg base T Γ a ps ns b
    | some (.thunk ns b) => ∃ Γ x, Γ.G = G ∧ Γ.F = F ∧ Γ.tn = some x ∧ okN x = true ∧ Γ.N[0]? = some x ∧ DefOk K mg base T Γ a [x] ns b
    | some (.dice ns b) => DiceB V ns b ∧ ∃ Γ ps, Γ.G = G ∧ Γ.F = F ∧ Γ.tn = none ∧ ps.length = 2 ∧ DefOk K mg base T Γ a ps ns b
    | some (.roll ns b) => RollB V ns b ∧ ∃ Γ ps, Γ.G = G ∧ Γ.F = F ∧ Γ.tn = none ∧ ps.length = 2 ∧ DefOk K mg base T Γ a ps ns b
    | none => True
section
variable {P : Program} {w : World} {K : PySem.W.Frag} {mg : Str → Option Value} {base : Heap} {T : Tab} {V : Wrl} {G : List (Str × GV)} {F : List (Nat × Str)}
theorem fnG_stuck {k : Nat} {a : Addr} {m : List Val → M Res} (h : ∀ xs, m xs = .stuck) : FnG P w K mg base T k a m :=
  ⟨fun A outer s H g us vs xs Q E _ _ _ _ _ _ hw => by rw [h] at hw; exact hw.elim⟩
theorem fnT_stuck {k : Nat} {a : Addr} {m : M Res → M Res} (h : ∀ x, m x = .stuck) : FnT P w K mg base T k a m :=
  ⟨fun A outer s H g fl th Q E _ _ _ _ _ hw => by rw [h] at hw; exact hw.elim⟩
theorem Step.dice {g g1 : Gh} {H H1 : Hp} {a : Addr} (st : Step g H g1 H1) (h : H a = Option.none) : Step g H ⟨g1.Z, fun b => g1.dc b ∨ b = a⟩ H1 where
  z := st.z
  zn := st.zn
  dc := fun b d => .inl (st.dc b d)
  dn := fun b d => by
    rcases d with d | rfl
    · exact st.dn b d
    · exact .inr h
  hp := st.hp
  there := st.there
theorem Good.dice {T : Tab} {g1 : Gh} {H1 : Hp} {a : Addr} {x y z : Int} (G : Good T g1 H1) (hz : g1.Z a = none) (e : H1 a = some (.lst [.int x, .int y, .int z])) : Good T ⟨g1.Z, fun b => g1.dc b ∨ b = a⟩ H1 where
  zs := G.zs
  zt := G.zt
  dc := fun b d => by
    rcases d with d | rfl
    · exact G.dc b d
    · exact ⟨hz, x, y, z, e⟩
  tb := G.tb
  tbl := G.tbl
theorem FnG.toDice {k : Nat} {a : Addr} {m m' : List Val → M Res} (F : FnG P w K mg base T k a m)
    (h : ∀ (xs : List Val) (P : Res → Prop) (E : Nat → Option PyData → Prop), (m' xs).wp P E → P (.v .dice) ∧ (m xs).wp (fun r => ∃ x y z, r = .l true [.int x, .int y, .int z]) fun _ _ => False) : FnG P w K mg base T k a m' := by
  refine ⟨fun A outer s H g us vs xs Q E hr hg e0 G rv R hw => ?_⟩
  obtain ⟨q, hw⟩ := h xs _ _ hw
  refine F.run A outer s H g us vs xs Q E hr hg e0 G rv R (M.wp_mono _ hw ?_ fun _ _ z => z.elim)
  rintro r ⟨x, y, z, rfl⟩ v g1 H1 st G1 RR
  obtain ⟨_, b, rfl, ⟨hz, hd, ws, e, rr⟩, hb⟩ := RR
  cases rr with
  | cons r1 rr =>
    cases rr with
    | cons r2 rr =>
      cases rr with
      | cons r3 rr =>
        cases rr
        cases r1
        cases r2
        cases r3
        exact q (.ref b) _ H1 (st.dice hb) (G1.dice hz e) (.dice (.inr rfl))
theorem FnG.imp {k : Nat} {a : Addr} {m m' : List Val → M Res} (F : FnG P w K mg base T k a m)
    (h : ∀ (xs : List Val) (P : Res → Prop) (E : Nat → Option PyData → Prop), (m' xs).wp P E → (m xs).wp P E) : FnG P w K mg base T k a m' :=
  ⟨fun A outer s H g us vs xs Q E hr hg e0 G rv R hw => F.run A outer s H g us vs xs Q E hr hg e0 G rv R (h xs _ _ hw)⟩
theorem xs_of (D : Wd P w K mg base T V G F) {d : Nat} (h1 : ∀ i a, T.fa i = some a → FnG P w K mg base T (4 * d) a (callF V d i)) (h2 : ∀ i a, T.fa i = some a → FnT P w K mg base T (4 * d + 1) a (callTF V d i))
    {Γ : Sg} {ps : List Str} {qual : Str} {scope : Scope} {a : Addr} {cdv : Value} {A : Around} {outer : List PySem.Env} {s : Shared} {H : Hp} {E : XK} {B : Bs} {th : M Res} (eG : Γ.G = G) (eF : Γ.F = F) (S : FnScope Γ.N ps scope) (hr : Room (4 * d + 3) (A.deeper (envOfC qual scope s.heap.objs.size a cdv))) (hg : A.guards = some [])
    (hl : Γ.lam = true → ∃ c P, cdv = .ref c ∧ LamX.TabB base mg c P ∧ (P, qual ++ ".<locals>." ++ "<lambda>") ∈ T.tb ∧ ∀ p ∈ T.tb, p.1 = P → p.2 = qual ++ ".<locals>." ++ "<lambda>") (e2 : Γ.thk = none) (e3 : Γ.err = none)
    (tt : ∀ x, Γ.tn = some x → ThOk T (cxOf (L2.CX P w) P w K mg base Γ.N qual scope a cdv A outer s H E) x 0 B th) :
    XS T (V.ctx (callF V d) (callTF V d) th) d Γ (cxOf (L2.CX P w) P w K mg base Γ.N qual scope a cdv A outer s H E) (fun cls d _ H' => E cls d H') B scope where
  U := ⟨by have := hr.un; show (A.deeper (envOfC qual scope s.heap.objs.size a cdv)).units + 200 < cLine; omega, hg⟩
  calm := fun _ => rfl
  nd := S.nd
  N := rfl
  sc := rfl
  tk := takes_of rfl rfl rfl rfl
  gf := fun x i e => D.gf x i (by rw [← eG]; exact e)
  gc := fun x k e => D.gc x k (by rw [← eG]; exact e)
  gn := fun x hx e => D.gn x hx (by rw [← eG]; exact e)
  fns := fun i b e => ⟨h1 i b e, D.kp i b e⟩
  thf := fun i b e => h2 i b e
  room := fun _ => hr.mono (by omega)
  lam := fun e => by
    obtain ⟨c, Q, e1, e2, e3, e4⟩ := hl e
    exact ⟨hr.mono (by omega), c, Q, e2, e1, e3, e4⟩
  th := fun x e => by
    rw [e2] at e
    cases e
  er := fun i x f e => by
    rw [e3] at e
    cases e
  hc := rfl
  stk := rfl
  frm := rfl
  po := passes_of rfl
  fn := rfl
  kind := S.kind
  ne := e3
  tt := tt
  fs := fun c => by rw [eF]; exact D.fs c
  gk := fun x c e => D.gk x c (by rw [← eG]; exact e)
  sub := D.sub
  fld := D.fld
  wrap := rfl
  r0 := D.r0 _ rfl rfl rfl
  r1 := D.r1 _ rfl rfl rfl (hr.mono (by omega))
theorem all_ok (D : Wd P w K mg base T V G F) : ∀ d, (∀ i a, T.fa i = some a → FnG P w K mg base T (4 * d) a (callF V d i)) ∧ ∀ i a, T.fa i = some a → FnT P w K mg base T (4 * d + 1) a (callTF V d i)
  | 0 => ⟨fun i a _ => fnG_stuck fun _ => rfl, fun i a _ => fnT_stuck fun _ => rfl⟩
  | d + 1 => by
    obtain ⟨ih1, ih2⟩ := all_ok D d
    refine ⟨fun i a e => ?_, fun i a e => ?_⟩
    · have q := D.defs i a e
      cases ed : V.defs[i]? with
      | none => exact fnG_stuck fun xs => by unfold callF; rw [ed]
      | some df =>
        rw [ed] at q
        cases df with
        | body np ns b =>
          obtain ⟨Γ, ps, g1, g2, g3, g4, dk⟩ := q
          obtain ⟨lk, hcd, S, hb, hns, hm, hl, e1, e2, e3, _⟩ := dk
          have r := fn_def (P := P) (w := w) (mg := mg) (base := base) (T := T) (k := 4 * d + 3) lk hcd S hb (m := evSL (V.ctx (callF V d) (callTF V d) .stuck) b) fun A outer s H E B hr hg =>
            sSL b (xs_of D ih1 ih2 g1 g2 S hr hg hl e2 e3 fun x z => by rw [g3] at z; cases z) hm
          have em : (fun xs : List Val => M.guard (xs.length == ps.length) ((evSL (V.ctx (callF V d) (callTF V d) .stuck) b (startSl Γ.N.length xs)).bind flRes)) = callF V (d + 1) i := by
            funext xs
            unfold callF
            rw [ed, g4, hns]
          rw [em] at r
          exact r
        | thunk ns b => exact fnG_stuck fun xs => by unfold callF; rw [ed]
        | dice ns b =>
          obtain ⟨hB, Γ, ps, g1, g2, g3, g4, dk⟩ := q
          obtain ⟨lk, hcd, S, hb, hns, hm, hl, e1, e2, e3, _⟩ := dk
          have r := fn_def (P := P) (w := w) (mg := mg) (base := base) (T := T) (k := 4 * d + 3) lk hcd S hb (m := evSL (V.ctx (callF V d) (callTF V d) .stuck) b) fun A outer s H E B hr hg =>
            sSL b (xs_of D ih1 ih2 g1 g2 S hr hg hl e2 e3 fun x z => by rw [g3] at z; cases z) hm
          refine r.toDice fun xs P E hw => ?_
          unfold callF at hw
          rw [ed] at hw
          have hw : (match xs with
            | [.p (.list ms), .p (.int j)] => M.guard (intList ms && decide (0 ≤ j) && decide (j < 1000)) (.ret (Res.v .dice))
            | _ => .stuck).wp P E := hw
          split at hw
          · obtain ⟨hz, hw⟩ := wp_guard hw
            simp only [Bool.and_eq_true, decide_eq_true_eq] at hz
            refine ⟨hw, ?_⟩
            show (M.guard (2 == ps.length) _).wp _ _
            rw [g4, hns]
            exact hB _ _ _ _ hz.1.1 hz.1.2 hz.2
          · exact False.elim hw
        | roll ns b =>
          obtain ⟨hB, Γ, ps, g1, g2, g3, g4, dk⟩ := q
          obtain ⟨lk, hcd, S, hb, hns, hm, hl, e1, e2, e3, _⟩ := dk
          have r := fn_def (P := P) (w := w) (mg := mg) (base := base) (T := T) (k := 4 * d + 3) lk hcd S hb (m := evSL (V.ctx (callF V d) (callTF V d) .stuck) b) fun A outer s H E B hr hg =>
            sSL b (xs_of D ih1 ih2 g1 g2 S hr hg hl e2 e3 fun x z => by rw [g3] at z; cases z) hm
          refine r.imp fun xs P E hw => ?_
          unfold callF at hw
          rw [ed] at hw
          have hw : (match xs with
            | [.dice, .p (.int n)] => M.guard (decide (0 < n) && decide (n < 1073741824)) (.roll n fun i => .ret (rI i))
            | _ => .stuck).wp P E := hw
          split at hw
          · obtain ⟨hz, hw⟩ := wp_guard hw
            simp only [Bool.and_eq_true, decide_eq_true_eq] at hz
            show (M.guard (2 == ps.length) _).wp _ _
            rw [g4, hns]
            refine M.wp_mono _ (hB _ _ _ hz.1 hz.2) ?_ fun _ _ z => z.elim
            rintro r ⟨i, rfl, h1, h2⟩
            exact hw i h1 h2
          · exact False.elim hw
    · have q := D.defs i a e
      cases ed : V.defs[i]? with
      | none => exact fnT_stuck fun xs => by unfold callTF; rw [ed]
      | some df =>
        rw [ed] at q
        cases df with
        | body np ns b => exact fnT_stuck fun xs => by unfold callTF; rw [ed]
        | dice _ _ => exact fnT_stuck fun xs => by unfold callTF; rw [ed]
        | roll _ _ => exact fnT_stuck fun xs => by unfold callTF; rw [ed]
        | thunk ns b =>
          obtain ⟨Γ, x, g1, g2, g3, g4, g5, dk⟩ := q
          obtain ⟨lk, hcd, S, hb, hns, hm, hl, e1, e2, e3, hv⟩ := dk
          obtain ⟨o1, o2⟩ := okN_of g4
          have r := fn_defT (P := P) (w := w) (mg := mg) (base := base) (T := T) (k := 4 * (d + 1) + 1) lk hcd S hb g5 (hv x g3) o1 o2 (m := fun th => evSL (V.ctx (callF V d) (callTF V d) th) b) fun A outer s H E B th hr hg ht =>
            sSL b (xs_of D ih1 ih2 g1 g2 S (hr.mono (by omega)) hg hl e2 e3 fun y z => by rw [g3] at z; cases z; exact ht) hm
          have em : (fun th : M Res => (evSL (V.ctx (callF V d) (callTF V d) th) b (some .thk :: List.replicate (Γ.N.length - 1) none)).bind flRes) = callTF V (d + 1) i := by
            funext th
            unfold callTF
            rw [ed, hns]
          rw [em] at r
          exact r
end
end Rf

set_option Elab.async false
set_option linter.all false
set_option maxRecDepth 100000
set_option maxHeartbeats 4000000
/-! R24: facts of the text, by one test over a part of the heap: plain parameters, data, scopes. -/
namespace Rf
open PySem PySem.Spec PyProof.Rows L2
/-! ### plain parameters -/
theorem fm_congr {α β : Type} {f g : α → Option β} : ∀ {l : List α}, (∀ a ∈ l, f a = g a) → l.filterMap f = l.filterMap g
  | [], _ => rfl
  | a :: l, h => by
    rw [List.filterMap_cons, List.filterMap_cons, h a List.mem_cons_self, fm_congr fun b hb => h b (List.mem_cons_of_mem _ hb)]
theorem zip_look : ∀ (ns : List Str) (us : List Value), ns.Nodup → us.length = ns.length → (ns.filterMap fun n => ((ns.zip us).lookup n).map fun v => (n, v)) = ns.zip us
  | [], [], _, _ => rfl
  | a :: r, u :: us, hn, hl => by
    obtain ⟨h1, h2⟩ := List.nodup_cons.mp hn
    have hl : us.length = r.length := Nat.succ.inj hl
    rw [List.zip_cons_cons, List.filterMap_cons]
    have e1 : ((a, u) :: r.zip us).lookup a = some u := by simp [List.lookup]
    rw [e1]
    show (a, u) :: _ = _
    congr 1
    refine (fm_congr fun n hn' => ?_).trans (zip_look r us h2 hl)
    have z : (n == a) = false := by
      cases q : n == a with
      | false => rfl
      | true => exact absurd (eq_of_beq q ▸ hn') h1
    simp only [List.lookup, z]
  | [], _ :: _, _, h => by cases h
  | _ :: _, [], _, h => by cases h
theorem zip_has : ∀ (ns : List Str) (us : List Value), us.length = ns.length → ∀ n ∈ ns, ((ns.zip us).lookup n).isNone = false
  | [], _, _, _, h => by cases h
  | a :: r, u :: us, hl, n, h => by
    rw [List.zip_cons_cons]
    cases q : n == a with
    | true => simp [List.lookup, q]
    | false =>
      simp only [List.lookup, q]
      refine zip_has r us (Nat.succ.inj hl) n ?_
      rcases List.mem_cons.mp h with rfl | h
      · simp at q
      · exact h
  | _ :: _, [], h, _, _ => by cases h
def plainP (p : Arguments) (ps : List Str) : Bool := p.posonlyargs.isEmpty && decide (p.args.map (·.arg) = ps) && p.vararg.isNone && p.kwonlyargs.isEmpty && p.kwarg.isNone
theorem bind_plain {fd : FuncData} {ps : List Str} (h : plainP fd.params ps = true) (hn : ps.Nodup) (hd : fd.defaults = .none) (us : List Value) (hl : us.length = ps.length) : bindArgs fd ⟨us, []⟩ = pure (ps.zip us) := by
  unfold plainP at h
  simp only [Bool.and_eq_true, decide_eq_true_eq, List.isEmpty_iff, Option.isNone_iff_eq_none] at h
  obtain ⟨⟨⟨⟨h1, h2⟩, h3⟩, h4⟩, h5⟩ := h
  obtain ⟨name, qualname, ⟨po, ar, va, ko, kd, kw, df⟩, body, scope, globals, closure, dV, kV, doc, pm, an, cd, ct, bl⟩ := fd
  cases h1
  cases h3
  cases h4
  cases h5
  cases hd
  have h2 : ar.map (·.arg) = ps := h2
  have e0 : seqItems? .none = pure none := rfl
  have f1 : ¬ (us.length > ps.length) := by omega
  have f2 : (ps.filter fun n => ((ps.zip us).lookup n).isNone) = [] := List.filter_eq_nil_iff.mpr fun n hn' => by rw [zip_has ps us hl n hn']; simp
  have f3 := zip_look ps us hn hl
  unfold bindArgs
  simp only [List.map_nil, List.nil_append, h2, e0, pure_bind]
  simp [f1, f2, f3]
end Rf

set_option Elab.async false
set_option linter.all false
set_option maxRecDepth 100000
set_option maxHeartbeats 4000000
/-! R25: facts of the text: names, constants, defs. -/
namespace Rf
open PySem PySem.Spec PyProof.Rows L2
/-! ### what a name stands for -/
def adrIn (K : PySem.W.Frag) (x : Str) : Option Addr := match PySem.W.nsIn K mainGlobals x with
  | some (some (.ref a)) => some a
  | _ => none
theorem adrIn_eq {K : PySem.W.Frag} {x : Str} {a : Addr} (e : adrIn K x = some a) : PySem.W.nsIn K mainGlobals x = some (some (.ref a)) := by
  unfold adrIn at e
  split at e
  · rename_i q
    cases e
    exact q
  · cases e
theorem adrIn_ga {K : PySem.W.Frag} {x : Str} {a : Addr} (e : adrIn K x = some a) : He.ga K x = a := by
  unfold He.ga
  rw [adrIn_eq e]
/-! ### constants -/
def allB (f : Value → PyData → Bool) : List Value → List PyData → Bool
  | [], [] => true
  | u :: us, d :: ds => f u d && allB f us ds
  | _, _ => false
def seqB (f : Value → PyData → Bool) (t : String) (ds : List PyData) : Option Obj → Bool
  | some ⟨.type c, none, .seq its _, _⟩ => decide (c = t) && decide (its.size ≤ 16777216) && allB f its.toList ds
  | _ => false
def datB (K : PySem.W.Frag) : Nat → Value → PyData → Bool
  | 0, _, _ => false
  | n + 1, u, d => match u, d with
    | .none, .none => true
    | .bool b, .bool c => decide (b = c)
    | .int i _, .int j => decide (i = j)
    | .str x _, .str y => decide (x = y)
    | .ref a, .tuple ds => seqB (datB K n) "tuple" ds (K.lookup a)
    | .ref a, .list ds => seqB (datB K n) "list" ds (K.lookup a)
    | _, _ => false
theorem allB_ok {K : PySem.W.Frag} {f : Value → PyData → Bool} (h : ∀ u d, f u d = true → ∃ v, RelV v u ∧ ∀ Z, RD K Z v d) : ∀ {us : List Value} {ds : List PyData}, allB f us ds = true → ∃ vs, Vals vs us ∧ ∀ Z, RDs K Z vs ds
  | [], [], _ => ⟨[], .nil, fun _ => .nil⟩
  | u :: us, d :: ds, e => by
    obtain ⟨e1, e2⟩ := He.ba (show (f u d && allB f us ds) = true from e)
    obtain ⟨v, r, q⟩ := h u d e1
    obtain ⟨vs, rs, qs⟩ := allB_ok h e2
    exact ⟨v :: vs, .cons r rs, fun Z => .cons (q Z) (qs Z)⟩
  | [], _ :: _, e => by cases e
  | _ :: _, [], e => by cases e
theorem seqB_ok {f : Value → PyData → Bool} {t : String} {ds : List PyData} {o : Option Obj} (h : seqB f t ds o = true) : ∃ ob its n, o = some ob ∧ ob.cls = .type t ∧ ob.dict = none ∧ ob.data = .seq its n ∧ its.size ≤ sizeLine ∧ allB f its.toList ds = true := by
  unfold seqB at h
  split at h
  · simp only [Bool.and_eq_true, decide_eq_true_eq] at h
    obtain ⟨⟨rfl, h2⟩, h3⟩ := h
    exact ⟨_, _, _, rfl, rfl, rfl, rfl, by rw [sizeLine_eq]; exact h2, h3⟩
  · cases h
theorem datB_ok {K : PySem.W.Frag} : ∀ (n : Nat) (u : Value) (d : PyData), datB K n u d = true → ∃ v, RelV v u ∧ ∀ Z, RD K Z v d
  | 0, _, _, h => by cases h
  | n + 1, u, d, h => by
    unfold datB at h
    split at h
    · exact ⟨.non, rfl, fun _ => .non⟩
    · rename_i b c
      cases of_decide_eq_true h
      exact ⟨.bl _, rfl, fun _ => .bl _⟩
    · rename_i i t j
      cases of_decide_eq_true h
      exact ⟨.int _, ⟨t, rfl⟩, fun _ => .int _⟩
    · rename_i x t y
      cases of_decide_eq_true h
      exact ⟨.str _, ⟨t, rfl⟩, fun _ => .str _⟩
    · rename_i a ds
      obtain ⟨ob, its, m, e1, e2, e3, e4, e5, e6⟩ := seqB_ok h
      obtain ⟨vs, rs, qs⟩ := allB_ok (datB_ok n) e6
      exact ⟨.ref a, rfl, fun Z => .tup (.inr ⟨ob, its, m, e1, e2, e4, e5, rs⟩) (qs Z)⟩
    · rename_i a ds
      obtain ⟨ob, its, m, e1, e2, e3, e4, e5, e6⟩ := seqB_ok h
      obtain ⟨vs, rs, qs⟩ := allB_ok (datB_ok n) e6
      exact ⟨.ref a, rfl, fun Z => .lst (.inr ⟨ob, its, m, e1, e2, e3, e4, e5, rs⟩) (qs Z)⟩
    · cases h
/-! ### scopes -/
def scopeB (N ps : List Str) (sc : Scope) : Bool := decide (sc.kind = .function) && !sc.isCoroutine && !sc.isGenerator && decide N.Nodup && decide (N.take ps.length = ps) && ps.all (fun x => decide (sc.names.lookup x = some .local) || decide (sc.names.lookup x = some .cell)) && sc.names.all fun y => decide (y.2 ≠ .free)
theorem scopeB_ok {N ps : List Str} {sc : Scope} (h : scopeB N ps sc = true) : FnScope N ps sc := by
  unfold scopeB at h
  simp only [Bool.and_eq_true, decide_eq_true_eq, Bool.not_eq_true', List.all_eq_true, Bool.or_eq_true] at h
  obtain ⟨⟨⟨⟨⟨⟨h1, h2⟩, h3⟩, h4⟩, h5⟩, h6⟩, h7⟩ := h
  exact ⟨h1, h2, h3, h4, h5, h6, fun y hy => h7 y hy⟩
/-! ### a def -/
/-- what is told of a def: its name, all names in it, its parameters, whether it makes lambdas, the name of the lambda that it gets -/
structure DfI where
  x : Str
  N : List Str
  ps : List Str
  lam : Bool
  tn : Option Str
abbrev DfI.sg (D : DfI) (G : List (Str × GV)) (F : List (Nat × Str)) : Sg := ⟨G, D.N, true, D.lam, none, none, F, D.tn⟩
/-- the tables of the defs that make lambdas: a global name, the def's qualified name -/
def tabsT (K : PySem.W.Frag) (tq : List (Str × Str)) : List (Addr × Str) := tq.map fun p => ((He.cT K (p.1, none)).2, p.2 ++ ".<locals>." ++ "<lambda>")
def lamB (K : PySem.W.Frag) (tq : List (Str × Str)) (x q : Str) : Bool := tq.contains (x, q) && (tabsT K tq).all fun p => !decide (p.1 = (He.cT K (x, none)).2) || decide (p.2 = q ++ ".<locals>." ++ "<lambda>")
def fnB (K : PySem.W.Frag) (tq : List (Str × Str)) (Γ : Sg) (x : Str) (ps : List Str) (b : SL) (fd : FuncData) : Bool := match fd.body with
  | .stmts body => decide (fd.globals = mainGlobals) && fd.closure.isEmpty && decide (fd.builtins = builtinsNs) && decide (fd.defaults = .none) && plainP fd.params ps && PySem.W.codeIn K fd.code fd.qualname && scopeB Γ.N ps fd.scope &&
      mSL Γ fd.scope b body && (!Γ.lam || lamB K tq x fd.qualname) && (match Γ.tn with | none => true | some y => visB fd.scope y)
  | _ => false
def defB (K : PySem.W.Frag) (tq : List (Str × Str)) (G : List (Str × GV)) (F : List (Nat × Str)) (D : DfI) (b : SL) : Bool := match adrIn K D.x with
  | some a => (match K.lookup a with
    | some ⟨_, _, .func fd, _⟩ => fnB K tq (D.sg G F) D.x D.ps b fd
    | _ => false)
  | none => false
theorem fnOf_eq {fd : FuncData} {body : List Stmt} (h1 : fd.globals = mainGlobals) (h2 : fd.closure = []) (h3 : fd.builtins = builtinsNs) (h4 : fd.body = .stmts body) : fd = PySem.W.fnOf fd.name fd.qualname fd.params body fd.scope fd.defaults fd.kwdefaults fd.doc fd.pyModule fd.annotations fd.code fd.closureTuple := by
  obtain ⟨name, qualname, params, bd, scope, globals, closure, dV, kV, doc, pm, an, cd, ct, bl⟩ := fd
  cases h1
  cases h2
  cases h3
  cases h4
  rfl
theorem visB_ok {sc : Scope} {x : Str} (h : visB sc x = true) : Vis sc x := by
  unfold visB at h
  simp only [Bool.or_eq_true, beq_iff_eq] at h
  rcases h with (h | h) | h
  · exact .inl h
  · exact .inr (.inl h)
  · exact .inr (.inr h)
theorem defB_ok {K : PySem.W.Frag} {tq : List (Str × Str)} {G : List (Str × GV)} {F : List (Nat × Str)} {D : DfI} {b : SL} {mg : Str → Option Value} {base : Heap} {T : Tab} {a : Addr} (h : defB K tq G F D b = true) (ea : adrIn K D.x = some a) (eT : T.tb = tabsT K tq)
    (TB : ∀ p ∈ tq, LamX.TabB base mg (He.cT K (p.1, none)).1 (He.cT K (p.1, none)).2) : DefOk K mg base T (D.sg G F) a D.ps D.N.length b := by
  unfold defB at h
  rw [ea] at h
  have h : (match K.lookup a with
    | some ⟨_, _, .func fd, _⟩ => fnB K tq (D.sg G F) D.x D.ps b fd
    | _ => false) = true := h
  split at h
  · rename_i oc od fd osl lk
    unfold fnB at h
    split at h
    · rename_i body eb
      simp only [Bool.and_eq_true, decide_eq_true_eq, List.isEmpty_iff] at h
      obtain ⟨⟨⟨⟨⟨⟨⟨⟨⟨h1, h2⟩, h3⟩, h4⟩, h5⟩, h6⟩, h7⟩, h8⟩, h9⟩, h10⟩ := h
      have S := scopeB_ok h7
      have ef := fnOf_eq h1 h2 h3 eb
      have nd : D.ps.Nodup := by
        have e := S.pre
        rw [← e]
        exact S.nd.sublist (List.take_sublist _ _)
      have hb : ∀ us : List Value, us.length = D.ps.length → bindArgs fd ⟨us, []⟩ = pure (D.ps.zip us) := fun us hl => bind_plain h5 nd h4 us hl
      refine .mk (ef ▸ lk) h6 S (by rw [← ef]; exact hb) rfl h8 (fun el => ?_) rfl rfl rfl fun y ey => ?_
      · have h9 : (!D.lam || lamB K tq D.x fd.qualname) = true := h9
        have el : D.lam = true := el
        rw [el] at h9
        have h9 : lamB K tq D.x fd.qualname = true := h9
        unfold lamB at h9
        simp only [Bool.and_eq_true, List.contains_iff_mem, List.all_eq_true, Bool.or_eq_true, Bool.not_eq_true', decide_eq_false_iff_not, decide_eq_true_eq] at h9
        obtain ⟨h11, h12⟩ := h9
        obtain ⟨c, ec⟩ := He.codeIn_ref h6
        have lk2 : K.lookup (He.fAd K (D.x, none)) = some ⟨oc, od, .func fd, osl⟩ := by
          show K.lookup (He.ga K D.x) = _
          rw [adrIn_ga ea]
          exact lk
        have ecd : (He.cT K (D.x, none)).1 = c := He.codeOf_eq lk2 ec
        have tb := TB _ h11
        rw [ecd] at tb
        refine ⟨c, (He.cT K (D.x, none)).2, ec, tb, ?_, fun p hp e => ?_⟩
        · rw [eT]
          exact List.mem_map.mpr ⟨_, h11, rfl⟩
        · rw [eT] at hp
          rcases h12 p hp with q | q
          · exact absurd e q
          · exact q
      · have ey : D.tn = some y := ey
        have h10 : (match D.tn with | none => true | some y => visB fd.scope y) = true := h10
        rw [ey] at h10
        exact visB_ok h10
    · cases h
  · cases h
end Rf

set_option Elab.async false
set_option linter.all false
set_option maxRecDepth 100000
set_option maxHeartbeats 4000000
/-! R26: facts of the text: own errors. -/
namespace Rf
open PySem PySem.Spec PyProof.Rows L2
/-! ### what Python has for the bases -/
inductive EB where
  | val | idx | ovf | ari | run | lku | typ
  deriving DecidableEq
def EB.B : EB → String
  | .val => "ValueError"
  | .idx => "IndexError"
  | .ovf => "OverflowError"
  | .ari => "ArithmeticError"
  | .run => "RuntimeError"
  | .lku => "LookupError"
  | .typ => "TypeError"
def EB.new : EB → String
  | .val => "ValueError.__new__"
  | .idx => "IndexError.__new__"
  | .ovf => "OverflowError.__new__"
  | .ari => "ArithmeticError.__new__"
  | .run => "RuntimeError.__new__"
  | .lku => "LookupError.__new__"
  | .typ => "TypeError.__new__"
def EB.ini : EB → String
  | .val => "ValueError.__init__"
  | .idx => "IndexError.__init__"
  | .ovf => "OverflowError.__init__"
  | .ari => "ArithmeticError.__init__"
  | .run => "RuntimeError.__init__"
  | .lku => "LookupError.__init__"
  | .typ => "TypeError.__init__"
def EB.mro : EB → List Value
  | .val => [.type "ValueError", .type "Exception", .type "BaseException", .type "object"]
  | .idx => [.type "IndexError", .type "LookupError", .type "Exception", .type "BaseException", .type "object"]
  | .ovf => [.type "OverflowError", .type "ArithmeticError", .type "Exception", .type "BaseException", .type "object"]
  | .ari => [.type "ArithmeticError", .type "Exception", .type "BaseException", .type "object"]
  | .run => [.type "RuntimeError", .type "Exception", .type "BaseException", .type "object"]
  | .lku => [.type "LookupError", .type "Exception", .type "BaseException", .type "object"]
  | .typ => [.type "TypeError", .type "Exception", .type "BaseException", .type "object"]
theorem EB.base : ∀ e : EB, ExcBaseFacts e.B e.new e.ini e.mro
  | .val => PySem.F.excBase_ValueError
  | .idx => PySem.F.excBase_IndexError
  | .ovf => PySem.F.excBase_OverflowError
  | .ari => PySem.F.excBase_ArithmeticError
  | .run => PySem.F.excBase_RuntimeError
  | .lku => PySem.F.excBase_LookupError
  | .typ => PySem.F.excBase_TypeError
theorem EB.store : ∀ e : EB, StoreFacts e.B e.mro "object.__setattr__" "object"
  | .val => PySem.F.store_ValueError
  | .idx => PySem.F.store_IndexError
  | .ovf => PySem.F.store_OverflowError
  | .ari => PySem.F.store_ArithmeticError
  | .run => PySem.F.store_RuntimeError
  | .lku => PySem.F.store_LookupError
  | .typ => PySem.F.store_TypeError
theorem EB.kxs : ∀ e : EB, PySem.W.KxsFacts e.B e.ini
  | .val => PySem.W.kxs_ValueError
  | .idx => PySem.W.kxs_IndexError
  | .ovf => PySem.W.kxs_OverflowError
  | .ari => PySem.W.kxs_ArithmeticError
  | .run => PySem.W.kxs_RuntimeError
  | .lku => PySem.W.kxs_LookupError
  | .typ => PySem.W.kxs_TypeError
/-! ### an error of the text: one that takes a message -/
def clsB (K : PySem.W.Frag) (a : Addr) : Bool := PySem.W.keepIn K (.ref a) && decide (PySem.W.subIn K (.ref a) (.type "BaseException") = some true) && decide (PySem.W.typeIn K (.ref a) = some (.type "type"))
theorem clsB_ok {X : Cx} {a : Addr} (h : clsB X.K a = true) : PySem.W.keepIn X.K (.ref a) = true ∧ Raises X (.ref a) := by
  unfold clsB at h
  simp only [Bool.and_eq_true, decide_eq_true_eq] at h
  exact ⟨h.1.1, raises_own h.1.2 h.2⟩
def own0B (K : PySem.W.Frag) (e : EB) (a : Addr) : Bool := PySem.W.excIn K a e.mro e.new && clsB K a
theorem own0B_ok {X : Cx} {e : EB} {C : Addr} (h : own0B X.K e C = true) {x m : Str} {j : Nat} {p p2 pos : Pos} (hm : X.mg x = some (.ref C)) (hg : Gl X x) (hd : (x == ("__debug__" : Str)) = false) : PMk X (.Call (.Name x p) [.Constant (.str m) j p2] [] pos) fun _ H Q => Q (.ref C) none H := by
  obtain ⟨h1, h2⟩ := He.ba h
  obtain ⟨h3, h4⟩ := clsB_ok (X := X) h2
  exact pmk_own e.base h1 hm h3 h4 hg hd
/-! ### one that keeps a thing -/
def keptS (f : Str) : List Stmt → Option Str
  | [.Expr (.Call (.Attribute (.Call (.Name s _) [] [] _) i q) [.Constant (.str _) _ _] [] r) _, .Assign [.Attribute (.Name n _) g _] (.Name a _) _] => if s = "super" ∧ i = "__init__" ∧ n = "self" ∧ g = f ∧ (q.endLine == r.line) = true then some a else none
  | _ => none
theorem keptS_ok {f a : Str} {b : List Stmt} (h : keptS f b = some a) : ∃ (m : Str) (j : Nat) (p0 p1 p2 p3 p4 p5 p6 p7 p8 p9 : Pos), (p2.endLine == p4.line) = true ∧ b = [.Expr (.Call (.Attribute (.Call (.Name "super" p0) [] [] p1) "__init__" p2) [.Constant (.str m) j p3] [] p4) p5, .Assign [.Attribute (.Name "self" p6) f p7] (.Name a p8) p9] := by
  unfold keptS at h
  split at h
  · split at h
    · rename_i hh
      obtain ⟨rfl, rfl, rfl, rfl, hq⟩ := hh
      cases h
      exact ⟨_, _, _, _, _, _, _, _, _, _, _, _, hq, rfl⟩
    · cases h
  · cases h
/-- the code object's file -/
def fileB (K : PySem.W.Frag) (file : Str) : Value → Bool
  | .ref c => (match K.lookup c with
    | some ⟨_, _, .fields vs, _⟩ => (match (vs[2]? : Option Value) with
      | some (Value.str z _) => file == z
      | _ => false)
    | _ => false)
  | _ => false
theorem fileB_ok {K : PySem.W.Frag} {file : Str} {v : Value} (h : fileB K file v = true) : ∃ (c : Addr) (cl : Value) (cd : Option Addr) (vs : Array Value) (cs : Array (Option Value)) (z : Str) (t : Tok), v = .ref c ∧ K.lookup c = some ⟨cl, cd, .fields vs, cs⟩ ∧ vs[2]? = some (.str z t) ∧ (file == z) = true := by
  unfold fileB at h
  split at h
  · split at h
    · rename_i lk
      split at h
      · rename_i e
        exact ⟨_, _, _, _, _, _, _, rfl, lk, e, h⟩
      · cases h
    · cases h
  · cases h
def cellB (K : PySem.W.Frag) (C cc : Addr) : Bool := match K.lookup cc with
  | some ⟨_, _, .cell (some (.ref D)), _⟩ => decide (D = C)
  | _ => false
theorem cellB_ok {K : PySem.W.Frag} {C cc : Addr} (h : cellB K C cc = true) : ∃ cl cd cs, K.lookup cc = some ⟨cl, cd, .cell (some (.ref C)), cs⟩ := by
  unfold cellB at h
  split at h
  · rename_i lk
    cases of_decide_eq_true h
    exact ⟨_, _, _, lk⟩
  · cases h
def kscB (a : Str) (sc : Scope) : Bool := decide (sc.names.lookup ("self" : Str) = some .local) && decide (sc.names.lookup a = some .local) && decide (sc.names.lookup ("super" : Str) = some .globalImplicit) && decide (sc.names.lookup ("__class__" : Str) = some .free) && !sc.isCoroutine && !sc.isGenerator && decide (sc.kind = .function) &&
  sc.names.all (fun y => decide (y.2 ≠ .cell)) && !(("self" : Str) == a) && !(a == ("__debug__" : Str))
/-- the facts of its __init__ -/
def kfnB (K : PySem.W.Frag) (file : Str) (C : Addr) (f : Str) (fd : FuncData) : Bool := match fd.body, fd.closure with
  | .stmts b, [(k, cc)] => (match keptS f b with
    | some a => decide (k = "__class__") && cellB K C cc && decide (fd.name = "__init__") && decide (fd.globals = mainGlobals) && decide (fd.builtins = builtinsNs) && decide (fd.defaults = .none) && plainP fd.params ["self", a] && PySem.W.codeIn K fd.code fd.qualname && fileB K file fd.code && kscB a fd.scope
    | none => false)
  | _, _ => false
def kobB (K : PySem.W.Frag) (file : Str) (C : Addr) (f : Str) : Option (Option Value) → Bool
  | some (some (.ref i)) => (match K.lookup i with
    | some ⟨.type t, _, .func fd, _⟩ => decide (t = "function") && kfnB K file C f fd
    | _ => false)
  | _ => false
def keptB (K : PySem.W.Frag) (file : Str) (e : EB) (C : Addr) (f : Str) : Bool := PySem.W.excInitIn K C e.mro e.new && clsB K C && kobB K file C f (PySem.W.findIn K (.ref C) "__init__") && (PySem.W.clsIn K C).isSome && decide (PySem.W.mroIn K C (.ref C) = some true) && decide (PySem.W.nsIn K mainGlobals "super" = some none) &&
  decide (PySem.W.nsIn K cStatics "thirdparty.any" = some none) && decide (PySem.W.ks_superIn K C C "__init__" = some (some (.builtin e.ini))) && decide (PySem.W.subIn K (.ref C) (.type e.B) = some true) && decide (PySem.W.findIn K (.ref C) "__setattr__" = some (some (.builtin "object.__setattr__"))) &&
  PySem.W.excOver K C e.mro && decide (PySem.W.takerIn K C f = some none) && PySem.W.hasDictIn K C && xfB K C && decide (PySem.W.findIn K (.ref C) f = some none)
theorem kfnB_ok {K : PySem.W.Frag} {file : Str} {C : Addr} {f : Str} {fd : FuncData} (h : kfnB K file C f fd = true) : ∃ (b : List Stmt) (cc : Addr) (a : Str), fd.body = .stmts b ∧ fd.closure = [(Str.ofString "__class__", cc)] ∧ keptS f b = some a ∧ cellB K C cc = true ∧ fd.name = "__init__" ∧ fd.globals = mainGlobals ∧
    fd.builtins = builtinsNs ∧ fd.defaults = .none ∧ plainP fd.params ["self", a] = true ∧ PySem.W.codeIn K fd.code fd.qualname = true ∧ fileB K file fd.code = true ∧ kscB a fd.scope = true := by
  unfold kfnB at h
  split at h
  · rename_i b k cc eb ec
    split at h
    · rename_i a ea
      simp only [Bool.and_eq_true, decide_eq_true_eq] at h
      obtain ⟨⟨⟨⟨⟨⟨⟨⟨⟨k1, k2⟩, k3⟩, k4⟩, k5⟩, k6⟩, k7⟩, k8⟩, k9⟩, k10⟩ := h
      subst k1
      exact ⟨b, cc, a, eb, ec, ea, k2, k3, k4, k5, k6, k7, k8, k9, k10⟩
    · cases h
  · cases h
theorem ksFn_eq {fd : FuncData} {b : List Stmt} {cc : Addr} (h0 : fd.name = "__init__") (h1 : fd.globals = mainGlobals) (h2 : fd.closure = [(Str.ofString "__class__", cc)]) (h3 : fd.builtins = builtinsNs) (h4 : fd.body = .stmts b) : fd = PySem.W.ksFn "__init__" fd.qualname fd.params b fd.scope fd.defaults fd.kwdefaults fd.doc fd.pyModule fd.annotations fd.code fd.closureTuple cc := by
  obtain ⟨name, qualname, params, bd, scope, globals, closure, dV, kV, doc, pm, an, cd, ct, bl⟩ := fd
  cases h0
  cases h1
  cases h2
  cases h3
  cases h4
  rfl
theorem hev_ok {o : Expr} {i m : Str} {j : Nat} {p2 p3 p4 : Pos} {env : PySem.Env} (hl : (p2.endLine == p4.line) = true) : ∃ pl : Sem Bool, eval (.Call (.Attribute o i p2) [.Constant (.str m) j p3] [] p4) env = (do
      let ov ← attributeBase o i env (eval o env)
      standAt p2.atName
      let (f, first) ← holding [ov] (getMethod ov i pl)
      callWith p4 f first (backTo p4 (starEach [.Constant (.str m) j p3] env)) []) := by
  have e : eval (.Call (.Attribute o i p2) [.Constant (.str m) j p3] [] p4) env = (do
      let ov ← attributeBase o i env (eval o env)
      standAt p2.atName
      methodCall o i p2 p4 env ov 1 (backTo p4 (starEach [.Constant (.str m) j p3] env)) []) := rfl
  refine ⟨plainOf o env, e.trans ?_⟩
  congr 1
  funext ov
  congr 1
  funext _
  exact mcall_line rfl hl
theorem keptB_ok {X : Cx} {file : Str} {e : EB} {C : Addr} {f : Str} (h : keptB X.K file e C f = true) (hf : X.prog.main.file = file) (ht : (X.prog.main.scope.names.lookup ("super" : Str)).isSome = false) (hs : X.mg "super" = none) (hr : Room 1 X.A) {x : Str} {p pos : Pos} {ex : Expr} {te : TE} (hm : X.mg x = some (.ref C)) (hg : Gl X x)
    (hd : (x == ("__debug__" : Str)) = false) (he : PE X ex te) (hn : noStar ex = true) : PMk X (.Call (.Name x p) [ex] [] pos) fun σ H Q => te σ H fun v H1 => ∀ dx, H1 dx = none → Q (.ref C) (some dx) (upd H1 dx (.xd [(f, v)])) := by
  unfold keptB at h
  simp only [Bool.and_eq_true, decide_eq_true_eq] at h
  obtain ⟨⟨⟨⟨⟨⟨⟨⟨⟨⟨⟨⟨⟨⟨h1, h2⟩, h3⟩, h4⟩, h5⟩, h6⟩, h7⟩, h8⟩, h9⟩, h10⟩, h11⟩, h12⟩, h13⟩, h14⟩, h15⟩ := h
  obtain ⟨kC, rC⟩ := clsB_ok (X := X) h2
  obtain ⟨cd, hcd⟩ := Option.isSome_iff_exists.mp h4
  unfold kobB at h3
  split at h3
  · rename_i fI hi
    split at h3
    · rename_i od fd osl lk
      obtain ⟨et, h3⟩ := He.ba h3
      cases of_decide_eq_true et
      obtain ⟨b, cc, a, eb, ec, ea, k2, k3, k4, k5, k6, k7, k8, k9, k10⟩ := kfnB_ok h3
      obtain ⟨cl, cld, csl, hcell⟩ := cellB_ok k2
      obtain ⟨m, j, p0, p1, p2, p3, p4, p5, p6, p7, p8, p9, hl, rfl⟩ := keptS_ok ea
      obtain ⟨cda, ccl, ccd, vs, ccs, z, tf, ecd, hcode, hvs, hfile⟩ := fileB_ok k9
      unfold kscB at k10
      simp only [Bool.and_eq_true, decide_eq_true_eq, Bool.not_eq_true', List.all_eq_true] at k10
      obtain ⟨⟨⟨⟨⟨⟨⟨⟨⟨s1, s2⟩, s3⟩, s4⟩, s5⟩, s6⟩, s7⟩, s8⟩, s9⟩, s10⟩ := k10
      have ef := ksFn_eq k3 k4 ec k5 eb
      have nd : (["self", a] : List Str).Nodup := by
        refine List.nodup_cons.mpr ⟨fun q => ?_, List.nodup_cons.mpr ⟨(by simp), List.nodup_nil⟩⟩
        rw [List.mem_singleton.mp q] at s9
        simp at s9
      have hbA : ∀ u v : Value, bindArgs fd ⟨[u, v], []⟩ = pure [(Str.ofString "self", u), (a, v)] := fun u v => bind_plain k7 nd k6 [u, v] rfl
      obtain ⟨ar, e1, e2⟩ : ∃ ar : Arg, (fd.params.posonlyargs ++ fd.params.args).head? = some ar ∧ ar.arg = "self" := by
        unfold plainP at k7
        simp only [Bool.and_eq_true, decide_eq_true_eq, List.isEmpty_iff] at k7
        obtain ⟨⟨⟨⟨q1, q2⟩, _⟩, _⟩, _⟩ := k7
        rw [q1, List.nil_append]
        cases q : fd.params.args with
        | nil =>
          rw [q] at q2
          cases q2
        | cons ar r =>
          rw [q] at q2
          exact ⟨ar, rfl, (List.cons.inj q2).1⟩
      rw [ef] at lk hbA
      rw [ecd] at lk hbA k8
      subst hf
      exact pmk_kept (k := 0) (ccd := none) e.base e.store e.kxs h1 hi lk k8 hbA e1 e2 s9 s10 s1 s2 s3 s4 s5 s6 s7 (fun y hy => s8 y hy) hcode hvs hfile ht hcell hcd h5 hs h7 h8 h9 h10 h11 h12 h13 rC hm kC hg hd hr (fun env => hev_ok hl) he hn
    · cases h3
  · cases h3
end Rf

set_option Elab.async false
set_option linter.all false
set_option maxRecDepth 100000
set_option maxHeartbeats 4000000
/-! R27: all facts of a text, by one test; the Hook that makes it. -/
namespace Rf
open PySem PySem.Spec PyProof.Rows L2
/-- what is told of a text: names, fields of errors, the world, defs, errors with their bases, defs that make lambdas, the file -/
structure Txt where
  G : List (Str × GV)
  F : List (Nat × Str)
  V : Wrl
  fns : List DfI
  cls : List (Str × EB)
  tq : List (Str × Str)
  file : Str
def Txt.tab (X : Txt) (K : PySem.W.Frag) : Tab where
  fa := fun i => X.fns[i]?.bind fun D => adrIn K D.x
  ca := fun c => X.cls[c]?.bind fun p => adrIn K p.1
  cf := fun c => X.F.lookup c
  tb := tabsT K X.tq
def Txt.gF (X : Txt) (K : PySem.W.Frag) (x : Str) (i : Nat) : Bool := match X.fns[i]? with
  | some D => decide (D.x = x) && (adrIn K x).isSome
  | none => false
def Txt.gK (X : Txt) (K : PySem.W.Frag) (x : Str) (c : Nat) : Bool := match X.cls[c]? with
  | some p => decide (p.1 = x) && (adrIn K x).isSome
  | none => false
def Txt.gC (X : Txt) (K : PySem.W.Frag) (x : Str) (k : Nat) : Bool := match PySem.W.nsIn K mainGlobals x with
  | some (some u) => datB K 64 u (X.V.cst.getD k .none)
  | _ => false
def Txt.gB (X : Txt) (K : PySem.W.Frag) : Str × GV → Bool
  | (x, .fn i) => X.gF K x i
  | (x, .cls c) => X.gK K x c
  | (x, .cst k) => X.gC K x k
def Txt.nB (X : Txt) (K : PySem.W.Frag) (x : Str) : Bool := (X.G.lookup x).isSome || decide (PySem.W.nsIn K mainGlobals x = some none)
def Txt.dB (X : Txt) (K : PySem.W.Frag) (i : Nat) : Bool := match X.fns[i]? with
  | none => true
  | some D => (match adrIn K D.x with
    | none => true
    | some a => PySem.W.keepIn K (.ref a) && (match X.V.defs[i]? with
      | none => true
      | some (.body np ns b) => decide (D.ps.length = np) && decide (D.N.length = ns) && D.tn.isNone && defB K X.tq X.G X.F D b
      | some (.thunk ns b) => (match D.tn with
        | some x => decide (D.ps = [x]) && okN x && decide (D.N[0]? = some x) && decide (D.N.length = ns) && defB K X.tq X.G X.F D b
        | none => false)
      | some (.dice ns b) => decide (D.ps.length = 2) && decide (D.N.length = ns) && D.tn.isNone && defB K X.tq X.G X.F D b
      | some (.roll ns b) => decide (D.ps.length = 2) && decide (D.N.length = ns) && D.tn.isNone && defB K X.tq X.G X.F D b))
def Txt.cB (X : Txt) (K : PySem.W.Frag) (c : Nat) : Bool := match X.cls[c]? with
  | none => true
  | some p => (match adrIn K p.1 with
    | none => true
    | some a => (match X.F.lookup c with
      | none => own0B K p.2 a
      | some f => keptB K X.file p.2 a f && decide (PySem.W.nsIn K mainGlobals "super" = some none)) && (List.range X.cls.length).all fun h => (match X.cls[h]?.bind fun q => adrIn K q.1 with
      | none => true
      | some b => decide (PySem.W.exmOne K (.ref a) (.ref b) = some (X.V.sub.contains (c, h)))))
def Txt.ok (X : Txt) (K : PySem.W.Frag) : Bool := X.G.all (X.gB K) && bltNames.all (X.nB K) && (List.range X.fns.length).all (X.dB K) && (List.range X.cls.length).all (X.cB K)
theorem range_all {n : Nat} {f : Nat → Bool} (h : (List.range n).all f = true) {i : Nat} (hi : i < n) : f i = true := List.all_eq_true.mp h i (List.mem_range.mpr hi)
theorem look_mem {α : Type} {x : Str} {v : α} : ∀ {l : List (Str × α)}, l.lookup x = some v → (x, v) ∈ l
  | [], h => by cases h
  | (y, u) :: r, h => by
    cases q : x == y with
    | true =>
      simp only [List.lookup, q] at h
      cases h
      rw [eq_of_beq q]
      exact List.mem_cons_self
    | false =>
      simp only [List.lookup, q] at h
      exact List.mem_cons_of_mem _ (look_mem h)
section
variable {X : Txt} {K : PySem.W.Frag} {P : Program} {w : World} {mg : Str → Option Value} {base : Heap}
theorem Txt.fa_of {i : Nat} {a : Addr} (e : (X.tab K).fa i = some a) : ∃ D, X.fns[i]? = some D ∧ adrIn K D.x = some a ∧ i < X.fns.length := by
  obtain ⟨D, e1, e2⟩ := Option.bind_eq_some_iff.mp (show (X.fns[i]?.bind fun D => adrIn K D.x) = some a from e)
  exact ⟨D, e1, e2, (List.getElem?_eq_some_iff.mp e1).1⟩
theorem Txt.ca_of {i : Nat} {a : Addr} (e : (X.tab K).ca i = some a) : ∃ D, X.cls[i]? = some D ∧ adrIn K D.1 = some a ∧ i < X.cls.length := by
  obtain ⟨D, e1, e2⟩ := Option.bind_eq_some_iff.mp (show (X.cls[i]?.bind fun D => adrIn K D.1) = some a from e)
  exact ⟨D, e1, e2, (List.getElem?_eq_some_iff.mp e1).1⟩
theorem Txt.wd (h : X.ok K = true) (KX : K.In base) (NG : base.Ns mainGlobals mg) (TB : ∀ p ∈ X.tq, LamX.TabB base mg (He.cT K (p.1, none)).1 (He.cT K (p.1, none)).2) (hf : P.main.file = X.file) (ht : (P.main.scope.names.lookup ("super" : Str)).isSome = false)
    (hD : ∀ (i ns : Nat) (b : SL), X.V.defs[i]? = some (.dice ns b) → DiceB X.V ns b) (hR : ∀ (i ns : Nat) (b : SL), X.V.defs[i]? = some (.roll ns b) → RollB X.V ns b) : Wd P w K mg base (X.tab K) X.V X.G X.F := by
  unfold Txt.ok at h
  simp only [Bool.and_eq_true] at h
  obtain ⟨⟨⟨h1, h2⟩, h3⟩, h4⟩ := h
  have hG : ∀ {x : Str} {v : GV}, X.G.lookup x = some v → X.gB K (x, v) = true := fun e => List.all_eq_true.mp h1 _ (look_mem e)
  have mgA : ∀ {x : Str} {a : Addr}, adrIn K x = some a → mg x = some (.ref a) := fun e => PySem.W.mg_of KX NG (adrIn_eq e)
  have cls : ∀ {c : Nat} {C : Addr}, (X.tab K).ca c = some C → ∃ p, X.cls[c]? = some p ∧ adrIn K p.1 = some C ∧ (match X.F.lookup c with
      | none => own0B K p.2 C
      | some f => keptB K X.file p.2 C f && decide (PySem.W.nsIn K mainGlobals "super" = some none)) = true ∧ ∀ h D, (X.tab K).ca h = some D → PySem.W.exmOne K (.ref C) (.ref D) = some (X.V.sub.contains (c, h)) := fun {c C} e => by
    obtain ⟨p, e1, e2, hl⟩ := Txt.ca_of e
    have q := range_all h4 hl
    unfold Txt.cB at q
    rw [e1] at q
    have q : (match adrIn K p.1 with
      | none => true
      | some a => (match X.F.lookup c with
        | none => own0B K p.2 a
        | some f => keptB K X.file p.2 a f && decide (PySem.W.nsIn K mainGlobals "super" = some none)) && (List.range X.cls.length).all fun h => (match X.cls[h]?.bind fun q => adrIn K q.1 with
        | none => true
        | some b => decide (PySem.W.exmOne K (.ref a) (.ref b) = some (X.V.sub.contains (c, h))))) = true := q
    rw [e2] at q
    obtain ⟨q1, q2⟩ := He.ba q
    refine ⟨p, e1, e2, q1, fun h D ed => ?_⟩
    obtain ⟨p2, _, _, hl2⟩ := Txt.ca_of ed
    have q3 := range_all q2 hl2
    rw [show (X.cls[h]?.bind fun q => adrIn K q.1) = some D from ed] at q3
    exact of_decide_eq_true q3
  refine ⟨fun x i e => ?_, fun x k e => ?_, fun x c e => ?_, fun x hx e => ?_, fun i a e => ?_, fun _ => rfl, fun c h C1 D1 e1 e2 => ?_, fun c C1 f e1 e2 => ?_, fun Y eP eK eM c C1 e1 e2 x m j p p2 pos hm hg hd => ?_, fun Y eP eK eM hr c C1 f e1 e2 x p pos ex te hm hg hd he hn => ?_, fun i a e => ?_⟩
  · have q : X.gF K x i = true := hG e
    unfold Txt.gF at q
    cases eD : X.fns[i]? with
    | none =>
      rw [eD] at q
      cases q
    | some D =>
      rw [eD] at q
      obtain ⟨q1, q2⟩ := He.ba q
      have q1 := of_decide_eq_true q1
      obtain ⟨a, q2⟩ := Option.isSome_iff_exists.mp q2
      refine ⟨a, mgA q2, ?_⟩
      show (X.fns[i]?.bind fun D => adrIn K D.x) = some a
      rw [eD]
      show adrIn K D.x = some a
      rw [q1]
      exact q2
  · have q : X.gC K x k = true := hG e
    unfold Txt.gC at q
    cases eu : PySem.W.nsIn K mainGlobals x with
    | none =>
      rw [eu] at q
      cases q
    | some ou =>
      rw [eu] at q
      cases ou with
      | none => cases q
      | some u =>
        obtain ⟨v, r, rd⟩ := datB_ok _ _ _ q
        exact ⟨u, v, PySem.W.mg_of KX NG eu, r, fun g => .p (rd g.Z)⟩
  · have q : X.gK K x c = true := hG e
    unfold Txt.gK at q
    cases eD : X.cls[c]? with
    | none =>
      rw [eD] at q
      cases q
    | some D =>
      rw [eD] at q
      obtain ⟨q1, q2⟩ := He.ba q
      have q1 := of_decide_eq_true q1
      obtain ⟨a, q2⟩ := Option.isSome_iff_exists.mp q2
      refine ⟨a, mgA q2, ?_⟩
      show (X.cls[c]?.bind fun D => adrIn K D.1) = some a
      rw [eD]
      show adrIn K D.1 = some a
      rw [q1]
      exact q2
  · have q := List.all_eq_true.mp h2 x hx
    unfold Txt.nB at q
    rw [e] at q
    exact PySem.W.mg_none_of KX NG (of_decide_eq_true (by simpa using q))
  · obtain ⟨D, e1, e2, hl⟩ := Txt.fa_of e
    have q := range_all h3 hl
    unfold Txt.dB at q
    rw [e1] at q
    simp only [e2] at q
    exact (He.ba q).1
  · obtain ⟨p, _, _, _, q⟩ := cls e1
    exact q h D1 e2
  · obtain ⟨p, _, _, q, _⟩ := cls e1
    rw [show X.F.lookup c = some f from e2] at q
    have q := (He.ba q).1
    unfold keptB at q
    simp only [Bool.and_eq_true, decide_eq_true_eq] at q
    exact ⟨xfB_ok q.1.2, q.2⟩
  · obtain ⟨p', _, _, q, _⟩ := cls e1
    rw [show X.F.lookup c = none from e2] at q
    subst eK
    exact own0B_ok q hm hg hd
  · obtain ⟨p', _, _, q, _⟩ := cls e1
    rw [show X.F.lookup c = some f from e2] at q
    obtain ⟨q1, q2⟩ := He.ba q
    have hs : Y.mg "super" = none := by
      rw [eM]
      exact PySem.W.mg_none_of KX NG (of_decide_eq_true q2)
    subst eK
    exact keptB_ok q1 (by rw [eP]; exact hf) (by rw [eP]; exact ht) hs hr hm hg hd he hn
  · obtain ⟨D, e1, e2, hl⟩ := Txt.fa_of e
    have q := range_all h3 hl
    unfold Txt.dB at q
    rw [e1] at q
    simp only [e2] at q
    have q := (He.ba q).2
    have ok : ∀ {b : SL}, defB K X.tq X.G X.F D b = true → DefOk K mg base (X.tab K) (D.sg X.G X.F) a D.ps D.N.length b := fun hb => defB_ok hb e2 rfl TB
    cases ed : X.V.defs[i]? with
    | none => trivial
    | some df =>
      rw [ed] at q
      cases df with
      | body np ns b =>
        simp only [Bool.and_eq_true, decide_eq_true_eq, Option.isNone_iff_eq_none] at q
        obtain ⟨⟨⟨q1, q2⟩, q3⟩, q4⟩ := q
        exact ⟨D.sg X.G X.F, D.ps, rfl, rfl, q3, q1, q2 ▸ ok q4⟩
      | thunk ns b =>
        have q : (match D.tn with
          | some x => decide (D.ps = [x]) && okN x && decide (D.N[0]? = some x) && decide (D.N.length = ns) && defB K X.tq X.G X.F D b
          | none => false) = true := q
        split at q
        · rename_i x ex
          simp only [Bool.and_eq_true, decide_eq_true_eq] at q
          obtain ⟨⟨⟨⟨q1, q2⟩, q3⟩, q4⟩, q5⟩ := q
          exact ⟨D.sg X.G X.F, x, rfl, rfl, ex, q2, q3, by rw [← q1, ← q4]; exact ok q5⟩
        · cases q
      | dice ns b =>
        simp only [Bool.and_eq_true, decide_eq_true_eq, Option.isNone_iff_eq_none] at q
        obtain ⟨⟨⟨q1, q2⟩, q3⟩, q4⟩ := q
        exact ⟨hD i ns b ed, D.sg X.G X.F, D.ps, rfl, rfl, q3, q1, q2 ▸ ok q4⟩
      | roll ns b =>
        simp only [Bool.and_eq_true, decide_eq_true_eq, Option.isNone_iff_eq_none] at q
        obtain ⟨⟨⟨q1, q2⟩, q3⟩, q4⟩ := q
        exact ⟨hR i ns b ed, D.sg X.G X.F, D.ps, rfl, rfl, q3, q1, q2 ▸ ok q4⟩
end
/-! ### the Hook -/
def asR (g : Addr → Option Obj) : Nat → List Addr
  | 0 => [mainGlobals, cStatics]
  | n + 1 => He.growD g (asR g n)
abbrev tfOf (tq : List (Str × Str)) : List He.Defn := tq.map fun p => (p.1, none)
def obsR (as : (Addr → Option Obj) → List Addr) (X : Txt) (g : Addr → Option Obj) : Bool := X.ok (He.frT g (as g)) && He.tabsB g (tfOf X.tq) (He.frT g (as g))
/-- what is told of the heap -/
structure SaysR (X : Txt) (h : Heap) (K : PySem.W.Frag) : Prop where
  kin : K.In h
  ok : X.ok K = true
  hd : ∀ p ∈ tfOf X.tq, PySem.W.codeHdIn K (He.cT K p).1 (He.cT K p).2 = true
  out : ∀ p ∈ tfOf X.tq, K.lookup (He.cT K p).2 = none
  empty : ∀ p ∈ tfOf X.tq, h.get? (He.cT K p).2 = some { cls := .none, data := .fields #[] }
theorem saysR_of {as : (Addr → Option Obj) → List Addr} {X : Txt} {h : Heap} (e : obsR as X h.get? = true) : SaysR X h (He.frT h.get? (as h.get?)) := by
  obtain ⟨h1, h2⟩ := He.ba e
  have key : ∀ p ∈ tfOf X.tq, PySem.W.codeHdIn (He.frT h.get? (as h.get?)) (He.cT (He.frT h.get? (as h.get?)) p).1 (He.cT (He.frT h.get? (as h.get?)) p).2 = true ∧ ∃ o, h.get? (He.cT (He.frT h.get? (as h.get?)) p).2 = some o ∧ He.emptyTab o = true := fun p hp => by
    obtain ⟨h3, h4⟩ := He.ba (List.all_eq_true.mp h2 p hp)
    refine ⟨h3, ?_⟩
    cases q : h.get? (He.cT (He.frT h.get? (as h.get?)) p).2 with
    | none =>
      rw [q] at h4
      cases h4
    | some o =>
      rw [q] at h4
      exact ⟨o, rfl, h4⟩
  exact ⟨He.frT_in, h1, fun p hp => (key p hp).1, fun p hp => let ⟨_, o, q, z⟩ := key p hp; He.frT_none q z, fun p hp => by
    obtain ⟨_, o, q, z⟩ := key p hp
    rw [q, He.emptyTab_eq z]⟩
def hookR (as : (Addr → Option Obj) → List Addr) (X : Txt) : PySem.W.Hook where
  α := Bool
  obs := fun s => obsR as X s.heap.get?
  val := fun _ => true
  says := fun _ h => ∃ K : PySem.W.Frag, SaysR X h K
  of := fun _ _ e => ⟨_, saysR_of e⟩
  keeps := fun _ _ _ ⟨K, c⟩ k => ⟨K, PySem.W.Frag.In.keeps c.kin k, c.ok, c.hd, c.out, fun p hp => k _ _ (c.empty p hp)⟩
def obR (as : (Addr → Option Obj) → List Addr) (X : Txt) (s : PySem.W.SharedT) : Bool := obsR as X (HandSHeadRun.getT s)
theorem obR_eq {as : (Addr → Option Obj) → List Addr} {X : Txt} (s : PySem.W.SharedT) : obR as X s = (hookR as X).obs s.abs := by
  have e : HandSHeadRun.getT s = s.abs.heap.get? := funext (HandSHeadRun.getT_eq s)
  show obsR as X (HandSHeadRun.getT s) = obsR as X s.abs.heap.get?
  rw [e]
end Rf

set_option Elab.async false
set_option linter.all false
set_option maxRecDepth 100000
set_option maxHeartbeats 4000000
/-! R28: a law's end: what the plain law says is what the row asks. -/
namespace Rf
open PySem PySem.Spec PyProof.Rows L2
section
variable {X : Txt} {K : PySem.W.Frag} {P : Program} {w : World} {mg mb : Str → Option Value} {s : Shared} {a fa : Addr} {us : List Value} {ns : List Int} {i d : Nat}
abbrev emptyO : Obj := { cls := .none, data := .fields #[] }
abbrev listO (us : List Value) : Obj := { cls := .type "list", data := .seq us.toArray }
/-- what is tracked at the law's entry -/
def entryZ (a : Addr) (zo : Option HO) : Hp := fun b => if b = a then zo else none
def entryH (a : Addr) (zo : Option HO) (ts : List Addr) : Hp := fun b => if b = a then zo else if b ∈ ts then some (.tbl #[]) else none
theorem rds_ints {Z : Hp} : ∀ ns : List Int, RDs K Z (ns.map V.int) (ns.map PyData.int)
  | [] => .nil
  | i :: r => .cons (.int i) (rds_ints r)
theorem law_end (S : SaysR X s.heap K) (hns : s.heap.Ns mainGlobals mg) (hb : s.heap.Ns builtinsNs mb) (hbb : ∀ x : Str, x ≠ "__name__" → mb x = bootBuiltins x) (hlim : s.heap.NoLimit) (hg : s.gens = #[])
    (hbm : ∃ (bm : Addr) (ob : Obj), mg "__builtins__" = some (.ref bm) ∧ bm ≠ builtinsNs ∧ s.heap.get? bm = some ob ∧ ob.cls = .type "module" ∧ ob.dict = some builtinsNs ∧ ob.data = .plain)
    (ha : s.heap.get? a = some (listO us)) (hi : IntsAre us ns) (hl : ns.length ≤ sizeLine) (hfa : (X.tab K).fa i = some fa)
    (hf : P.main.file = X.file) (ht : (P.main.scope.names.lookup ("super" : Str)).isSome = false)
    (hD : ∀ (i ns : Nat) (b : SL), X.V.defs[i]? = some (.dice ns b) → DiceB X.V ns b) (hR : ∀ (i ns : Nat) (b : SL), X.V.defs[i]? = some (.roll ns b) → RollB X.V ns b) (hr : Room (4 * d) callerA)
    (plain : (callF X.V d i [.p (.list (ns.map .int))]).wp (fun r => r = .v (.p (.bool true))) fun _ _ => False) :
    codeAny (model P w) callerA (.call (.ref fa) ⟨[.ref a], []⟩) (fun r s' => r = .ok (.ret (.bool true)) ∧ OldK s.heap s'.heap ∧ s'.os = s.os ∧ AllBare s'.gens) s := by
  have rv := vals_ints hi
  have hlen := hi.length
  generalize ets : (tabsT K X.tq).map (·.1) = ts
  have inT : ∀ b, b ∈ ts → ∃ p ∈ tfOf X.tq, (He.cT K p).2 = b := fun b hb => by
    rw [← ets] at hb
    obtain ⟨q, hq, e⟩ := List.mem_map.mp hb
    obtain ⟨p, hp, e2⟩ := List.mem_map.mp hq
    exact ⟨(p.1, none), List.mem_map.mpr ⟨p, hp, rfl⟩, by rw [← e, ← e2]⟩
  have isT : ∀ b, b ∈ ts → s.heap.get? b = some emptyO := fun b hb => by
    obtain ⟨p, hp, e⟩ := inT b hb
    rw [← e]
    exact S.empty p hp
  have outT : ∀ b, b ∈ ts → K.lookup b = none := fun b hb => by
    obtain ⟨p, hp, e⟩ := inT b hb
    rw [← e]
    exact S.out p hp
  have aT : a ∉ ts := fun z => by
    have q := isT a z
    rw [ha] at q
    cases congrArg Obj.data (Option.some.inj q)
  have tT : ∀ p ∈ X.tq, (He.cT K (p.1, none)).2 ∈ ts := fun p hp => by
    rw [← ets]
    exact List.mem_map.mpr ⟨_, List.mem_map.mpr ⟨p, hp, rfl⟩, rfl⟩
  have core : ∀ zo : Option HO, (∀ o, zo = some o → o = .frz (listO us) (.lst (ns.map V.int)) ∧ K.lookup a = none) → SqL K (entryZ a zo) a (ns.map V.int) →
      codeAny (model P w) callerA (.call (.ref fa) ⟨[.ref a], []⟩) (fun r s' => r = .ok (.ret (.bool true)) ∧ OldK s.heap s'.heap ∧ s'.os = s.os ∧ AllBare s'.gens) s := by
    intro zo hz sq
    have at_ : ∀ b o, entryH a zo ts b = some o → (b = a ∧ zo = some o) ∨ (b ∈ ts ∧ o = .tbl #[]) := fun b o e => by
      unfold entryH at e
      by_cases h1 : b = a
      · rw [if_pos h1] at e
        exact .inl ⟨h1, e⟩
      · rw [if_neg h1] at e
        by_cases h2 : b ∈ ts
        · rw [if_pos h2] at e
          exact .inr ⟨h2, (Option.some.inj e).symm⟩
        · rw [if_neg h2] at e
          cases e
    have atT : ∀ b, b ∈ ts → entryH a zo ts b = some (.tbl #[]) := fun b hb => by
      unfold entryH
      rw [if_neg (show ¬ b = a from fun z => aT (by rw [← z]; exact hb)), if_pos hb]
    have noK : ∀ b o, K.lookup b = some o → entryH a zo ts b = none := fun b o e => by
      cases q : entryH a zo ts b with
      | none => rfl
      | some u =>
        rcases at_ b u q with ⟨rfl, q2⟩ | ⟨q2, _⟩
        · rw [(hz _ q2).2] at e
          cases e
        · rw [outT b q2] at e
          cases e
    -- what is neither a list nor without all is not tracked
    have noD : ∀ b o, s.heap.get? b = some o → (∀ vs n, o.data ≠ .seq vs n) → o.data ≠ .fields #[] → entryH a zo ts b = none := fun b o e h1 h2 => by
      cases q : entryH a zo ts b with
      | none => rfl
      | some u =>
        rcases at_ b u q with ⟨rfl, _⟩ | ⟨q2, _⟩
        · rw [ha] at e
          cases e
          exact absurd rfl (h1 _ _)
        · rw [isT b q2] at e
          cases e
          exact absurd rfl h2
    have nsO : ∀ {b : Addr} {m : Str → Option Value}, s.heap.Ns b m → (hidT s.heap (entryH a zo ts)).Ns b m := fun {b m} ⟨o, es, ep, e, q, r⟩ => ⟨o, es, ep, hidT_get e (noD b o e (fun vs n z => by rw [q] at z; cases z) fun z => by rw [q] at z; cases z), q, r⟩
    have KB : K.In (hidT s.heap (entryH a zo ts)) := fun b o e => hidT_get (S.kin b o e) (noK b o e)
    have NB := nsO hns
    have ok : HOk P w (entryH a zo ts) s.heap := fun b u e => by
      rcases at_ b u e with ⟨rfl, q⟩ | ⟨q, rfl⟩
      · rw [(hz _ q).1]
        exact ⟨ha, by rw [List.length_map]; exact hl, us, _, rv, ha⟩
      · exact isT b q
    have e0 : Env0 P w K mg (hidT s.heap (entryH a zo ts)) callerA [] s (entryH a zo ts) :=
      ⟨rfl, ⟨KB, NB, ⟨mb, nsO hb, hbb⟩, let ⟨mc, h1, h2⟩ := hlim; ⟨mc, nsO h1, h2⟩⟩, fun b o e => of_hidT e, Nat.le_of_eq (hidT_size _ _), trivial, (fun b hb => nomatch (show b ∈ ([] : List Addr) from hb)), ok, .of_eq hg⟩
    have TB : ∀ p ∈ X.tq, LamX.TabB (hidT s.heap (entryH a zo ts)) mg (He.cT K (p.1, none)).1 (He.cT K (p.1, none)).2 := fun p hp => by
      have hpt := isT _ (tT p hp)
      have hm : (p.1, none) ∈ tfOf X.tq := List.mem_map.mpr ⟨p, hp, rfl⟩
      refine ⟨?_, ?_, fun z => ?_⟩
      · obtain ⟨o, vs, file, tf, flags, tg, inF, text, tt, e1, e2, e3, e4, rest⟩ := PySem.W.codeHd_of_K S.kin (S.hd _ hm)
        refine ⟨o, vs, file, tf, flags, tg, inF, text, tt, hidT_get e1 (noD _ o e1 (fun _ _ z => by rw [e3] at z; cases z) fun z => ?_), e2, e3, e4, rest⟩
        rw [e3] at z
        cases z
        simp at e4
      · obtain ⟨bm, ob, q1, q2, q3, q4, q5, q6⟩ := hbm
        refine ⟨bm, ob, q1, q2, fun z => ?_, fun z => ?_, hidT_get q3 (noD _ ob q3 (fun _ _ z => by rw [q6] at z; cases z) fun z => by rw [q6] at z; cases z), q4, q5, q6⟩
        · obtain ⟨o, es, ep, e, q, _⟩ := hns
          rw [z, e] at q3
          cases q3
          rw [q] at q6
          cases q6
        · rw [z, hpt] at q3
          cases q3
          cases q6
      · obtain ⟨o, es, ep, e, q, _⟩ := hns
        rw [z, hpt] at e
        cases e
        cases q
    have G : Good (X.tab K) ⟨entryZ a zo, fun _ => False⟩ (entryH a zo ts) := by
      refine ⟨fun b o e => ?_, fun b ps e => ?_, fun _ z => z.elim, fun p hp => ?_, fun b ps e => ?_⟩
      · have e : (if b = a then zo else none) = some o := e
        unfold entryH
        by_cases h1 : b = a
        · rw [if_pos h1] at e ⊢
          exact e
        · rw [if_neg h1] at e
          cases e
      · have e : (if b = a then zo else none) = some (.tbl ps) := e
        by_cases h1 : b = a
        · rw [if_pos h1] at e
          cases (hz _ e).1
        · rw [if_neg h1] at e
          cases e
      · refine LamX.TabS.nil (atT _ ?_)
        rw [← ets]
        exact List.mem_map.mpr ⟨p, hp, rfl⟩
      · rcases at_ b _ e with ⟨_, q⟩ | ⟨q, _⟩
        · cases (hz _ q).1
        · rw [← ets] at q
          obtain ⟨p, hp, rfl⟩ := List.mem_map.mp q
          exact ⟨p.2, hp⟩
    have D := Txt.wd (P := P) (w := w) S.ok KB NB TB hf ht hD hR
    refine codeAny_mono (((all_ok D d).1 i fa hfa).run callerA [] s (entryH a zo ts) _ [.ref a] [.ref a] [.p (.list (ns.map .int))] (fun v _ => v = .bl true) (fun _ _ _ => False) hr rfl e0 G (.cons rfl .nil) (.cons (.p (.lst sq (rds_ints ns))) .nil) ?_) fun r s' h => ?_
    · refine M.wp_mono _ plain (fun r e => ?_) fun _ _ z => z.elim
      subst e
      intro v g' H' _ _ R
      cases R with
      | p R =>
        cases R
        rfl
    · cases r with
      | error e =>
        obtain ⟨_, _, _, _, _, _, _, _, _, _, _, _, z⟩ := (show L2.CX P w [] (entryH a zo ts) s (fun _ _ _ => False) e s' from h)
        exact z.elim
      | ok fl =>
        cases fl with
        | next => exact False.elim h
        | brk => exact False.elim h
        | cont => exact False.elim h
        | ret u =>
          obtain ⟨v, H', eos, bare, un, ok', r', q⟩ := h
          have q : v = .bl true := q
          subst q
          obtain rfl : u = Value.bool true := r'
          have stay : ∀ b o, b ∉ ts → s.heap.get? b = some o → s'.heap.get? b = some o := fun b o nb e => by
            cases q : entryH a zo ts b with
            | none => exact un.keep b o e q (fun z => by cases z) fun z => by cases z
            | some u =>
              rcases at_ b u q with ⟨rfl, q2⟩ | ⟨q2, _⟩
              · rw [(hz _ q2).1] at q
                obtain ⟨e1, _⟩ := ok b _ q
                obtain ⟨e2, _⟩ := ok' b _ (un.frzs b _ _ q)
                rw [e] at e1
                cases e1
                exact e2
              · exact absurd q2 nb
          have grown : ∀ b, b ∈ ts → ∃ more : Array Value, s'.heap.get? b = some { cls := .none, data := .fields more } := fun b hb => by
            obtain ⟨more, z⟩ := un.tbls b #[] (atT b hb)
            exact ⟨_, ok' b _ z⟩
          refine ⟨rfl, ⟨fun b o e => ?_, fun b o e => ?_⟩, eos, bare⟩
          · by_cases hb : b ∈ ts
            · obtain ⟨more, hm⟩ := grown b hb
              rw [isT b hb] at e
              cases e
              obtain ⟨p, hp, ep⟩ := inT b hb
              have cd := PySem.W.codeHd_of_K S.kin (S.hd _ hp)
              rw [ep] at cd
              exact .inr (.inl ⟨(cd.tab (isT b hb)).isCodeTable, rfl, #[], more, rfl, by rw [Array.empty_append]; exact hm⟩)
            · exact .inl (stay b o hb e)
          · by_cases hb : b ∈ ts
            · obtain ⟨more, hm⟩ := grown b hb
              exact ⟨_, hm⟩
            · exact ⟨o, stay b o hb e⟩
  cases hk : K.lookup a with
  | some o =>
    have e := S.kin a o hk
    rw [ha] at e
    cases e
    exact core none (fun _ z => by cases z) (.inr ⟨_, us.toArray, _, hk, rfl, rfl, rfl, by rw [List.size_toArray, hlen]; exact hl, by simpa using rv⟩)
  | none => exact core (some (.frz (listO us) (.lst (ns.map V.int)))) (fun o e => ⟨(Option.some.inj e).symm, hk⟩) (.inl (.inr ⟨listO us, if_pos rfl⟩))
end
end Rf

set_option Elab.async false
set_option linter.all false
set_option maxRecDepth 100000
set_option maxHeartbeats 4000000
/-! R29: the walk of a law's row. -/
namespace Rf
open PySem PySem.Spec PyProof.Rows L2
theorem law_walk {l : PySem.W.OpenLaw} {n i dd : Nat} {q : Program} {loose : List Str} {XP : (Str → Option Value) → Heap → Prop} {d : DefRec} {as : (Addr → Option Obj) → List Addr} {X : Txt} (hn : l.most = some n) (hn2 : n ≤ sizeLine) (hdf : d.params.defaults = [])
    (hG : X.G.lookup d.name = some (.fn i)) (hf : l.prog.main.file = X.file) (ht : (l.prog.main.scope.names.lookup ("super" : Str)).isSome = false)
    (hD : ∀ (i ns : Nat) (b : SL), X.V.defs[i]? = some (.dice ns b) → DiceB X.V ns b) (hR : ∀ (i ns : Nat) (b : SL), X.V.defs[i]? = some (.roll ns b) → RollB X.V ns b) (hr : Room (4 * dd) callerA)
    (plain : ∀ ns : List Int, ns.length ≤ n → (callF X.V dd i [.p (.list (ns.map .int))]).wp (fun r => r = .v (.p (.bool true))) fun _ _ => False) :
    PySem.W.WalkO q loose XP (hookR as X).says l.row.toRowW d [] (fun f vs => PySem.call f vs) := by
  refine Att.attach_callB hn hdf fun w s₀ s₁ mg mb fa o pm cd doc a vs ns G Y ho hd hcd hmg hobj hints hlen hbits hg => ?_
  obtain ⟨K, S⟩ := Y
  have h1 : X.gF K d.name i = true := by
    have h := S.ok
    unfold Txt.ok at h
    simp only [Bool.and_eq_true] at h
    exact List.all_eq_true.mp h.1.1.1 _ (look_mem hG)
  have hfa : (X.tab K).fa i = some fa := by
    unfold Txt.gF at h1
    cases eD : X.fns[i]? with
    | none =>
      rw [eD] at h1
      cases h1
    | some D =>
      rw [eD] at h1
      obtain ⟨q1, q2⟩ := He.ba h1
      have q1 := of_decide_eq_true q1
      obtain ⟨b, q2⟩ := Option.isSome_iff_exists.mp q2
      have e := PySem.W.mg_of S.kin G.T.g (adrIn_eq q2)
      rw [hmg] at e
      cases e
      show (X.fns[i]?.bind fun D => adrIn K D.x) = some fa
      rw [eD]
      show adrIn K D.x = some fa
      rw [q1]
      exact q2
  exact law_end S G.T.g G.T.b G.T.builtins G.T.nolimit hg G.T.bmain hobj hints (Nat.le_trans hlen hn2) hfa hf ht hD hR hr (plain ns hlen)
end Rf

set_option Elab.async false
set_option linter.all false
set_option maxRecDepth 100000
set_option maxHeartbeats 4000000
/-! R30: the dice and the draws, as all laws have them. -/
namespace Rf
open PySem
def diceS1 : E := (.ife (.cmp .lt (.var 1) (.blt .len (.cons (.var 0) .nil))) (.blt .int1 (.cons (.idx (.var 0) (.var 1)) .nil)) (.bin .add (.bin .mul (.lit (.int 97)) (.var 1)) (.lit (.int 43))))
def diceS2 : E := (.bin .mod (.blt .max2 (.cons (.lit (.int 0)) (.cons (.bin .sub (.blt .abs (.cons (.var 2) .nil)) (.bin .pow (.lit (.int 10)) (.lit (.int 17)))) .nil))) (.bin .mul (.bin .pow (.lit (.int 10)) (.lit (.int 60))) (.bin .pow (.lit (.int 10)) (.lit (.int 60)))))
def diceS3 : E := (.lst (.cons (.var 3) (.cons (.bin .add (.bin .add (.bin .add (.bin .mul (.bin .mod (.blt .abs (.cons (.var 2) .nil)) (.lit (.int 1152921504606846737))) (.lit (.int 37))) (.bin .mul (.lit (.int 859)) (.var 1))) (.bin .mul (.lit (.int 31)) (.blt .int1 (.cons (.cmp .lt (.var 2) (.lit (.int 0))) .nil)))) (.lit (.int 17))) (.cons (.lit (.int 0)) .nil))))
def diceT : SL := (.cons (.set 2 diceS1) (.cons (.set 3 diceS2) (.cons (.ret diceS3) .nil)))
def rollT : SL := (.cons (.iff (.cmp .gt (.dget 0 0) (.lit (.int 0))) (.cons (.set 4 (.bin .mod (.blt .int1 (.cons (.dget 0 0) .nil)) (.var 1))) (.cons (.dset 0 0 (.bin .fdiv (.dget 0 0) (.var 1))) (.cons (.ret (.var 4)) .nil))) .nil) (.cons (.dset 0 2 (.bin .add (.dget 0 2) (.lit (.int 1)))) (.cons (.set 2 (.bin .mod (.blt .int1 (.cons (.bin .add (.dget 0 1) (.bin .mul (.lit (.int 15486209)) (.dget 0 2))) .nil)) (.lit (.int 2305843009213693951)))) (.cons (.set 3 (.bin .add (.bin .mul (.bin .mod (.blt .int1 (.cons (.bin .add (.bin .mul (.var 2) (.var 2)) (.bin .mul (.lit (.int 199)) (.dget 0 2))) .nil)) (.lit (.int 2305843009213693907))) (.lit (.int 7368751))) (.var 2))) (.cons (.ret (.bin .mod (.blt .int1 (.cons (.bin .fdiv (.var 3) (.lit (.int 65536))) .nil)) (.var 1))) .nil)))))
theorem guard_true {α : Type} {b : Bool} {m : M α} (h : b = true) : M.guard b m = m := by subst h; rfl
theorem intList_get : ∀ {xs : List PyData} {n : Nat}, intList xs = true → n < xs.length → ∃ k, xs[n]? = some (.int k)
  | .int k :: _, 0, _, _ => ⟨k, rfl⟩
  | .int _ :: r, n + 1, h, l => by
    obtain ⟨k, e⟩ := intList_get (xs := r) (n := n) h (Nat.lt_of_succ_lt_succ l)
    exact ⟨k, by simpa using e⟩
  | [], _, _, l => absurd l (Nat.not_lt_zero _)
theorem mulR_small {i j : Int} (h : i.natAbs < 18446744073709551616) : intOp .mul i j = .ret (i * j) := by
  show M.guard _ _ = _
  exact guard_true (by simp [h])
theorem dice_ok (V : Wrl) : DiceB V 4 diceT := by
  intro call callT xs i hx h0 h1
  generalize V.ctx call callT .stuck = C
  have s1 : ∃ k, evE C diceS1 [some (.v (.p (.list xs))), some (.v (.p (.int i))), none, none] = .ret (rI k) := by
    by_cases hl : i < (xs.length : Int)
    · obtain ⟨n, rfl⟩ := Int.eq_ofNat_of_zero_le h0
      obtain ⟨k, ek⟩ := intList_get hx (show n < xs.length by omega)
      refine ⟨k, ?_⟩
      have q : L2.atI (xs.map Val.p) (n : Int) = some (.p (.int k)) := by
        unfold L2.atI L2.ixN
        have hn : n < xs.length := by omega
        simp [hn]
        exact (List.getElem?_eq_some_iff.mp ek).2
      simp [diceS1, evE, evT, evR, varR, blt, idxR, Res.items, Res.int, q, M.bind, M.ofOpt, cmpR, cmpI, Cop.mem, M.guard, hl]
    · refine ⟨97 * i + 43, ?_⟩
      simp [diceS1, evE, evT, evR, varR, blt, idxR, Res.items, Res.int, M.bind, M.ofOpt, cmpR, cmpI, Cop.mem, hl, binR, intOp, M.guard]
  obtain ⟨k, s1⟩ := s1
  have s2 : ∃ l, evE C diceS2 [some (.v (.p (.list xs))), some (.v (.p (.int i))), some (.v (.p (.int k))), none] = .ret (rI l) := ⟨_, rfl⟩
  obtain ⟨l, s2⟩ := s2
  have s3 : ∃ m, evE C diceS3 [some (.v (.p (.list xs))), some (.v (.p (.int i))), some (.v (.p (.int k))), some (.v (.p (.int l)))] = .ret (.l true [.int l, .int m, .int 0]) := by
    have hz : ∀ z : Int, (Int.fmod z 1152921504606846737).natAbs < 18446744073709551616 := fun z => by
      have a := Int.fmod_nonneg_of_pos z (show (0 : Int) < 1152921504606846737 by decide)
      have b := Int.fmod_lt_of_pos z (show (0 : Int) < 1152921504606846737 by decide)
      omega
    refine ⟨(Int.fmod (if k < 0 then -k else k) 1152921504606846737) * 37 + 859 * i + 31 * (if decide (k < 0) then 1 else 0) + 17, ?_⟩
    simp only [diceS3, evE, evT, evR, evL, varR, blt, Res.items, Res.int, M.bind, M.ofOpt, cmpR, cmpI, Cop.mem, binR, List.getElem?_cons_zero, List.getElem?_cons_succ]
    simp [intOp, M.guard, M.bind, hz, rI, rB, blt, Res.int, Res.toVal, M.ofOpt, dataAll]
  obtain ⟨m, s3⟩ := s3
  show (M.bind (seqM _ _ [some (.v (.p (.list xs))), some (.v (.p (.int i))), none, none]) flRes).wp _ _
  simp only [seqM, evSL, evS, setM, retM, s1, s2, s3, M.bind, M.ofOpt, Res.slot, List.set_cons_zero, List.set_cons_succ]
  exact ⟨l, m, 0, rfl⟩
theorem fmod_in (z : Int) {n : Int} (h : 0 < n) : 0 ≤ z.fmod n ∧ z.fmod n < n := ⟨Int.fmod_nonneg_of_pos z h, Int.fmod_lt_of_pos z h⟩
theorem roll_ok (V : Wrl) : RollB V 5 rollT := by
  intro call callT n h0 h1
  generalize V.ctx call callT .stuck = C
  have n0 : (n != 0) = true := by simp; omega
  have n1 : decide (n.natAbs < 1073741824) = true := by simp; omega
  have hs : ∀ z : Int, (z.fmod 2305843009213693951).natAbs < 18446744073709551616 := fun z => by
    have := fmod_in z (show (0 : Int) < 2305843009213693951 by decide)
    omega
  have hs2 : ∀ z : Int, (z.fmod 2305843009213693907).natAbs < 18446744073709551616 := fun z => by
    have := fmod_in z (show (0 : Int) < 2305843009213693907 by decide)
    omega
  show (M.bind (seqM _ _ [some (.v .dice), some (.v (.p (.int n))), none, none, none]) flRes).wp _ _
  simp only [seqM, evSL, evS, iffM, evT, evE, dgetM, List.getElem?_cons_zero, M.guard, M.bind, cmpR, Res.int, cmpI, Cop.mem, Bool.not_false, cond]
  intro d _
  cases hd : decide (0 < d)
  · simp only [seqM, setM, dsetM, retM, evSL, evS, evE, evT, evR, dgetM, varR, List.getElem?_cons_zero, List.getElem?_cons_succ, M.guard, M.bind, Res.int, cmpI, cond, M.ofOpt, Res.slot, List.set_cons_zero, List.set_cons_succ, binR, intOp, blt, hd, M.wp]
    simp [M.guard, M.wp, M.bind, hs, hs2, n0, n1, Res.int, blt, binR, intOp, M.ofOpt, Res.slot, seqM, flRes, Res.up]
    exact fun _ _ _ => fmod_in _ h0
  · simp only [seqM, setM, dsetM, retM, evSL, evS, evE, evT, evR, dgetM, varR, List.getElem?_cons_zero, List.getElem?_cons_succ, M.guard, M.bind, Res.int, cmpI, cond, M.ofOpt, Res.slot, List.set_cons_zero, List.set_cons_succ, binR, intOp, blt, hd, M.wp]
    simp [M.guard, M.wp, M.bind, hs, hs2, n0, n1, Res.int, blt, binR, intOp, M.ofOpt, Res.slot, seqM, flRes, Res.up]
    exact fun _ => fmod_in _ h0
end Rf

set_option Elab.async false
set_option linter.all false
set_option maxRecDepth 100000
set_option maxHeartbeats 4000000
/-! R31: an outcome that says less; what a call comes to may be said by less. -/
namespace Rf
open PySem
/-- whatever is shown of m holds of m' -/
def Le {α : Type} (m m' : M α) : Prop := ∀ (P : α → Prop) (E : Nat → Option PyData → Prop), m.wp P E → m'.wp P E
theorem Le.refl {α : Type} {m : M α} : Le m m := fun _ _ h => h
theorem Le.trans {α : Type} {a b c : M α} (h : Le a b) (k : Le b c) : Le a c := fun P E z => k P E (h P E z)
theorem Le.stuck {α : Type} {m : M α} : Le .stuck m := fun _ _ h => h.elim
theorem Le.bind {α β : Type} {m m' : M α} {f f' : α → M β} (h : Le m m') (k : ∀ a, Le (f a) (f' a)) : Le (m.bind f) (m'.bind f') := fun P E z => by
  rw [M.wp_bind] at z ⊢
  exact h _ _ (M.wp_mono _ z (fun a q => k a _ _ q) fun _ _ q => q)
theorem Le.handle {α β : Type} {m m' : M α} {f f' : α → M β} {g g' : Nat → Option PyData → M β} (h : Le m m') (k : ∀ a, Le (f a) (f' a)) (k2 : ∀ c d, Le (g c d) (g' c d)) : Le (m.handle f g) (m'.handle f' g') := fun P E z => by
  rw [M.wp_handle] at z ⊢
  exact h _ _ (M.wp_mono _ z (fun a q => k a _ _ q) fun c d q => k2 c d _ _ q)
theorem wp_calm_iff {α : Type} : ∀ (m : M α) (Q : α → Prop) (E : Nat → Option PyData → Prop), m.calm.wp Q E ↔ m.wp Q (fun _ _ => False)
  | .ret _, _, _ => Iff.rfl
  | .exc _ _, _, _ => Iff.rfl
  | .roll n k, Q, E => forall_congr' fun i => imp_congr_right fun _ => imp_congr_right fun _ => wp_calm_iff (k i) Q E
  | .any p k, Q, E => forall_congr' fun i => imp_congr_right fun _ => wp_calm_iff (k i) Q E
  | .stuck, _, _ => Iff.rfl
theorem Le.calm {α : Type} {m m' : M α} (h : Le m m') : Le m.calm m'.calm := fun P E z => by
  rw [wp_calm_iff] at z ⊢
  exact h _ _ z
theorem Le.guard {α : Type} {b : Bool} {m m' : M α} (h : Le m m') : Le (.guard b m) (.guard b m') := by
  cases b
  · exact Le.stuck
  · exact h
theorem Le.cond {α : Type} {b : Bool} {m m' n n' : M α} (h : Le m m') (k : Le n n') : Le (cond b m n) (cond b m' n') := by
  cases b
  · exact k
  · exact h
theorem Le.each {α β : Type} {f f' : α → M β} (h : ∀ a, Le (f a) (f' a)) : ∀ xs : List α, Le (M.each f xs) (M.each f' xs)
  | [] => .refl
  | a :: r => (h a).bind fun _ => (Le.each h r).bind fun _ => .refl
structure CLe (C C' : Ctx) : Prop where
  cst : C.cst = C'.cst
  sub : C.sub = C'.sub
  fuel : C.fuel = C'.fuel
  call : ∀ f xs, Le (C.call f xs) (C'.call f xs)
  callT : ∀ f m m', Le m m' → Le (C.callT f m) (C'.callT f m')
  thk : Le C.thk C'.thk
  err : Le C.err C'.err
  wrap : ∀ b F F', (∀ σ, Le (F σ) (F' σ)) → ∀ σ, Le (C.wrap b F σ) (C'.wrap b F' σ)
section
variable {C C' : Ctx}
theorem le_thkAt {m m' : M Res} (h : Le m m') (i : Nat) (σ : Sl) : Le (thkAt m i σ) (thkAt m' i σ) := by
  unfold thkAt
  split
  · exact h
  · exact .refl
mutual
theorem leE (c : CLe C C') : ∀ (e : E) (σ : Sl), Le (evE C e σ) (evE C' e σ)
  | .var i, σ => .refl
  | .lit d, _ => .refl
  | .cst k, _ => by
    show Le (M.ret (Res.v (.p (C.cst k)))) (M.ret (Res.v (.p (C'.cst k))))
    rw [c.cst]
    exact .refl
  | .fnv k, _ => .refl
  | .tup es, σ => (leL c es σ).bind fun _ => .refl
  | .lst es, σ => (leL c es σ).bind fun _ => .refl
  | .bin o a b, σ => (leE c a σ).bind fun _ => (leE c b σ).bind fun _ => .refl
  | .neg a, σ => (leE c a σ).bind fun _ => .refl
  | .not a, σ => (leE c a σ).bind fun _ => .refl
  | .and a b, σ => (leE c a σ).bind fun _ => Le.bind .refl fun _ => .cond (leE c b σ) .refl
  | .or a b, σ => (leE c a σ).bind fun _ => Le.bind .refl fun _ => .cond .refl (leE c b σ)
  | .cmp o a b, σ => (leE c a σ).bind fun _ => (leE c b σ).bind fun _ => .refl
  | .cmp2 o o' a b z, σ => (leE c a σ).bind fun _ => (leE c b σ).bind fun _ => Le.bind .refl fun _ => .cond ((leE c z σ).bind fun _ => .refl) .refl
  | .isn neg a, σ => (leE c a σ).bind fun _ => .refl
  | .ife z a b, σ => (leT c z σ).bind fun _ => .cond (leE c a σ) (leE c b σ)
  | .call f es, σ => (leL c es σ).bind fun _ => c.call _ _
  | .callv i es, σ => Le.bind .refl fun _ => (leL c es σ).bind fun _ => c.call _ _
  | .thunk f b, σ => c.wrap _ _ _ (fun σ => c.callT _ _ _ ((leE c b σ).bind fun _ => .refl)) σ
  | .callT i, σ => le_thkAt c.thk _ _
  | .err i, σ => le_thkAt c.err _ _
  | .dget i j, σ => .refl
  | .lrng1 a, σ => (leE c a σ).bind fun _ => .refl
  | .lrng2 a b, σ => (leE c a σ).bind fun _ => (leE c b σ).bind fun _ => .refl
  | .bad, _ => .refl
  | .blt b es, σ => (leR c es σ).bind fun _ => .refl
  | .idx a b, σ => (leE c a σ).bind fun _ => (leE c b σ).bind fun _ => .refl
  | .slc a lo hi, σ => (leE c a σ).bind fun _ => (leO c lo σ).bind fun _ => (leO c hi σ).bind fun _ => .refl
  | .lc e g it z, σ => (leI c it σ).bind fun bx => .guard (Le.bind (Le.calm (Le.each (fun x => Le.bind .refl fun σ' => (leC c z σ').bind fun _ => .cond ((leE c e σ').bind fun _ => .refl) .refl) _)) fun _ => .refl)
theorem leT (c : CLe C C') : ∀ (e : E) (σ : Sl), Le (evT C e σ) (evT C' e σ)
  | .not a, σ => (leT c a σ).bind fun _ => .refl
  | .and a b, σ => (leT c a σ).bind fun _ => .cond (leT c b σ) .refl
  | .or a b, σ => (leT c a σ).bind fun _ => .cond .refl (leT c b σ)
  | .ife _ _ _, _ => .refl
  | .var i, σ => .refl
  | .cmp o a b, σ => (leE c a σ).bind fun _ => (leE c b σ).bind fun _ => .refl
  | .cmp2 o o' a b z, σ => (leE c a σ).bind fun _ => (leE c b σ).bind fun _ => Le.bind .refl fun _ => .cond ((leE c z σ).bind fun _ => .refl) .refl
  | .isn neg a, σ => (leE c a σ).bind fun _ => .refl
  | .call f es, σ => Le.bind ((leL c es σ).bind fun _ => c.call _ _) fun _ => .refl
  | .callv i es, σ => Le.bind (Le.bind .refl fun _ => (leL c es σ).bind fun _ => c.call _ _) fun _ => .refl
  | .blt b es, σ => Le.bind ((leR c es σ).bind fun _ => .refl) fun _ => .refl
  | .idx a b, σ => Le.bind ((leE c a σ).bind fun _ => (leE c b σ).bind fun _ => .refl) fun _ => .refl
  | .lit _, _ => .refl
  | .cst _, _ => .refl
  | .fnv _, _ => .refl
  | .tup _, _ => .refl
  | .lst _, _ => .refl
  | .bin _ _ _, _ => .refl
  | .neg _, _ => .refl
  | .thunk _ _, _ => .refl
  | .callT _, _ => .refl
  | .err _, _ => .refl
  | .dget _ _, _ => .refl
  | .lrng1 _, _ => .refl
  | .lrng2 _ _, _ => .refl
  | .bad, _ => .refl
  | .slc _ _ _, _ => .refl
  | .lc _ _ _ _, _ => .refl
theorem leL (c : CLe C C') : ∀ (es : EL) (σ : Sl), Le (evL C es σ) (evL C' es σ)
  | .nil, _ => .refl
  | .cons e es, σ => (leE c e σ).bind fun _ => Le.bind .refl fun _ => (leL c es σ).bind fun _ => .refl
  | .star e es, σ => (leE c e σ).bind fun _ => Le.bind .refl fun _ => (leL c es σ).bind fun _ => .refl
theorem leR (c : CLe C C') : ∀ (es : EL) (σ : Sl), Le (evR C es σ) (evR C' es σ)
  | .nil, _ => .refl
  | .cons e es, σ => (leE c e σ).bind fun _ => (leR c es σ).bind fun _ => .refl
  | .star _ _, _ => .refl
theorem leO (c : CLe C C') : ∀ (o : O) (σ : Sl), Le (evO C o σ) (evO C' o σ)
  | .none, _ => .refl
  | .some e, σ => (leE c e σ).bind fun _ => .refl
theorem leC (c : CLe C C') : ∀ (o : O) (σ : Sl), Le (evC C o σ) (evC C' o σ)
  | .none, _ => .refl
  | .some e, σ => leT c e σ
theorem leI (c : CLe C C') : ∀ (i : I) (σ : Sl), Le (evI C i σ) (evI C' i σ)
  | .seq e, σ => (leE c e σ).bind fun _ => .refl
  | .rng1 a, σ => (leE c a σ).bind fun _ => .refl
  | .rng2 a b, σ => (leE c a σ).bind fun _ => (leE c b σ).bind fun _ => .refl
  | .enum e, σ => (leE c e σ).bind fun _ => .refl
  | .zip a b, σ => (leE c a σ).bind fun _ => (leE c b σ).bind fun _ => .refl
  | .enumS e _, σ => (leE c e σ).bind fun _ => .refl
  | .rng3 a b d, σ => (leE c a σ).bind fun _ => (leE c b σ).bind fun _ => (leE c d σ).bind fun _ => .refl
end
theorem le_while {c c' : Sl → M Bool} {b b' : Sl → M (Fl × Sl)} (h : ∀ σ, Le (c σ) (c' σ)) (k : ∀ σ, Le (b σ) (b' σ)) : ∀ (n : Nat) (σ : Sl), Le (whileF c b n σ) (whileF c' b' n σ)
  | 0, _ => .refl
  | n + 1, σ => (h σ).bind fun _ => .cond ((k σ).bind fun fs => by
      show Le (match fs.1 with | .nx => _ | .cont => _ | .brk => _ | .ret r => _) (match fs.1 with | .nx => _ | .cont => _ | .brk => _ | .ret r => _)
      cases fs.1 with
      | nx => exact le_while h k n _
      | cont => exact le_while h k n _
      | brk => exact .refl
      | ret r => exact .refl) .refl
theorem le_for {g : G} {b b' : Sl → M (Fl × Sl)} (k : ∀ σ, Le (b σ) (b' σ)) : ∀ (xs : List Val) (σ : Sl), Le (forF g b xs σ) (forF g b' xs σ)
  | [], _ => .refl
  | x :: r, σ => Le.bind .refl fun σ1 => (k σ1).bind fun fs => by
      show Le (match fs.1 with | .nx => _ | .cont => _ | .brk => _ | .ret r => _) (match fs.1 with | .nx => _ | .cont => _ | .brk => _ | .ret r => _)
      cases fs.1 with
      | nx => exact le_for k r _
      | cont => exact le_for k r _
      | brk => exact .refl
      | ret r => exact .refl
theorem leH {C C' : Ctx} (c : CLe C C') (x : Nat) (k : Option PyData) : ∀ (h : HL) (σ : Sl), Le (evH C x k h σ) (evH C' x k h σ)
  | .nil, _ => .refl
  | .cons h nm e r, σ => by
    show Le (cond (C.sub x h) _ _) (cond (C'.sub x h) _ _)
    have es : C.sub x h = C'.sub x h := by rw [c.sub]
    rw [es]
    exact .cond (Le.calm (leE (C := { C with err := kept (x == h && nm.isSome) k }) (C' := { C' with err := kept (x == h && nm.isSome) k }) ⟨c.cst, c.sub, c.fuel, c.call, c.callT, c.thk, .refl, c.wrap⟩ e _)) (leH c x k r σ)
theorem le_seq {m1 m1' m2 m2' : Sl → M (Fl × Sl)} (h : ∀ σ, Le (m1 σ) (m1' σ)) (k : ∀ σ, Le (m2 σ) (m2' σ)) (σ : Sl) : Le (seqM m1 m2 σ) (seqM m1' m2' σ) := (h σ).bind fun fs => by
  show Le (match fs.1 with | .nx => _ | _ => _) (match fs.1 with | .nx => _ | _ => _)
  cases fs.1 with
  | nx => exact k _
  | cont => exact .refl
  | brk => exact .refl
  | ret r => exact .refl
mutual
theorem leS (c : CLe C C') : ∀ (s : S) (σ : Sl), Le (evS C s σ) (evS C' s σ)
  | .set i e, σ => (leE c e σ).bind fun _ => .refl
  | .unp is e, σ => (leE c e σ).bind fun _ => .refl
  | .par is es, σ => (leR c es σ).bind fun _ => .refl
  | .aug i o e, σ => Le.bind .refl fun _ => (leE c e σ).bind fun _ => .refl
  | .app i e, σ => by
    show Le (appM _ _ _) (appM _ _ _)
    unfold appM
    split
    · exact (leE c e σ).bind fun _ => .refl
    · exact .refl
  | .ext i e, σ => by
    show Le (extM _ _ _) (extM _ _ _)
    unfold extM
    split
    · exact (leE c e σ).bind fun _ => .refl
    · exact .refl
  | .pop i, σ => .refl
  | .ins i a e, σ => by
    show Le (insM _ _ _ _) (insM _ _ _ _)
    unfold insM
    split
    · exact (leE c a σ).bind fun _ => (leE c e σ).bind fun _ => .refl
    · exact .refl
  | .unpg ts e, σ => (leE c e σ).bind fun _ => .refl
  | .dset i j e, σ => (leE c e σ).bind fun _ => .refl
  | .iff z a b, σ => (leT c z σ).bind fun _ => .cond (leSL c a σ) (leSL c b σ)
  | .whl z b, σ => by
    show Le (whileF _ _ C.fuel σ) (whileF _ _ C'.fuel σ)
    rw [c.fuel]
    exact le_while (fun σ => leT c z σ) (fun σ => leSL c b σ) _ _
  | .for_ g it b, σ => (leI c it σ).bind fun _ => .guard (le_for (fun σ => leSL c b σ) _ _)
  | .ret e, σ => (leE c e σ).bind fun _ => .refl
  | .retN, σ => .refl
  | .expr e, σ => (leE c e σ).bind fun _ => .refl
  | .raise0 x, _ => .refl
  | .raise1 x e, σ => (leE c e σ).bind fun _ => .refl
  | .tryc rt e hs, σ => Le.handle (leE c e σ) (fun _ => .refl) fun x k => (leH c x k hs σ).bind fun _ => .refl
  | .brk, σ => .refl
  | .cont, σ => .refl
  | .pass, σ => .refl
  | .bad, _ => .refl
theorem leSL (c : CLe C C') : ∀ (b : SL) (σ : Sl), Le (evSL C b σ) (evSL C' b σ)
  | .nil, _ => .refl
  | .cons s r, σ => le_seq (fun σ => leS c s σ) (fun σ => leSL c r σ) σ
  | .frz i r, σ => by
    show Le (frzM _ _ _) (frzM _ _ _)
    unfold frzM
    split
    · exact leSL c r _
    · exact leSL c r _
  | .kill i r, σ => leSL c r _
end
end
/-! ### calls by what is known of them -/
def dataV : List Val → Option (List PyData)
  | [] => some []
  | .p d :: r => (dataV r).map (d :: ·)
  | _ :: _ => none
section
variable (V : Wrl) (sm : Nat → List Val → Option (M Res))
mutual
def callG : Nat → Nat → List Val → M Res
  | 0, _, _ => .stuck
  | d + 1, f, xs => match sm f xs with
    | some m => m
    | none => match V.defs[f]? with
      | some (.body np ns b) => .guard (xs.length == np) ((evSL (V.ctx (callG d) (callTG d) .stuck) b (startSl ns xs)).bind flRes)
      | some (.dice _ _) => match xs with
        | [.p (.list ns), .p (.int i)] => .guard (intList ns && decide (0 ≤ i) && decide (i < 1000)) (.ret (.v .dice))
        | _ => .stuck
      | some (.roll _ _) => match xs with
        | [.dice, .p (.int n)] => .guard (decide (0 < n) && decide (n < 1073741824)) (.roll n fun i => .ret (rI i))
        | _ => .stuck
      | _ => .stuck
def callTG : Nat → Nat → M Res → M Res
  | 0, _, _ => .stuck
  | d + 1, f, m => match V.defs[f]? with
    | some (.thunk ns b) => (evSL (V.ctx (callG d) (callTG d) m) b (some .thk :: List.replicate (ns - 1) none)).bind flRes
    | _ => .stuck
end
end
theorem ctx_le {V : Wrl} {c c' : Nat → List Val → M Res} {t t' : Nat → M Res → M Res} {m m' : M Res} (h : ∀ f xs, Le (c f xs) (c' f xs)) (k : ∀ f m m', Le m m' → Le (t f m) (t' f m')) (z : Le m m') : CLe (V.ctx c t m) (V.ctx c' t' m') := ⟨rfl, rfl, rfl, h, k, z, .refl, fun _ _ _ h σ => h σ⟩
theorem call_up (V : Wrl) : ∀ d, (∀ f xs, Le (callF V d f xs) (callF V (d + 1) f xs)) ∧ ∀ f m m', Le m m' → Le (callTF V d f m) (callTF V (d + 1) f m')
  | 0 => ⟨fun _ _ => .stuck, fun _ _ _ _ => .stuck⟩
  | d + 1 => by
    obtain ⟨h, k⟩ := call_up V d
    refine ⟨fun f xs => ?_, fun f m m' z => ?_⟩
    · unfold callF
      cases V.defs[f]? with
      | none => exact .refl
      | some df =>
        cases df with
        | body np ns b => exact .guard ((leSL (ctx_le h k .refl) b _).bind fun _ => .refl)
        | thunk ns b => exact .refl
        | dice ns b => exact .refl
        | roll ns b => exact .refl
    · unfold callTF
      cases V.defs[f]? with
      | none => exact .refl
      | some df =>
        cases df with
        | body np ns b => exact .refl
        | thunk ns b => exact (leSL (ctx_le h k z) b _).bind fun _ => .refl
        | dice ns b => exact .refl
        | roll ns b => exact .refl
theorem call_up' (V : Wrl) (d : Nat) : ∀ e, (∀ f xs, Le (callF V d f xs) (callF V (d + e) f xs))
  | 0 => fun _ _ => .refl
  | e + 1 => fun f xs => (call_up' V d e f xs).trans ((call_up V (d + e)).1 f xs)
theorem callG_le (V : Wrl) (sm : Nat → List Val → Option (M Res)) (D : Nat) (hs : ∀ f xs m, sm f xs = some m → Le m (callF V D f xs)) :
    ∀ d, (∀ f xs, Le (callG V sm d f xs) (callF V (D + d) f xs)) ∧ ∀ f m m', Le m m' → Le (callTG V sm d f m) (callTF V (D + d) f m')
  | 0 => ⟨fun _ _ => .stuck, fun _ _ _ _ => .stuck⟩
  | d + 1 => by
    obtain ⟨h, k⟩ := callG_le V sm D hs d
    refine ⟨fun f xs => ?_, fun f m m' z => ?_⟩
    · unfold callG
      cases e : sm f xs with
      | some m => exact (hs f xs m e).trans (call_up' V D (d + 1) f xs)
      | none =>
        show Le _ (callF V ((D + d) + 1) f xs)
        unfold callF
        cases V.defs[f]? with
        | none => exact .refl
        | some df =>
          cases df with
          | body np ns b => exact .guard ((leSL (ctx_le h k .refl) b _).bind fun _ => .refl)
          | thunk ns b => exact .refl
          | dice ns b => exact .refl
          | roll ns b => exact .refl
    · show Le _ (callTF V ((D + d) + 1) f m')
      unfold callTG callTF
      cases V.defs[f]? with
      | none => exact .refl
      | some df =>
        cases df with
        | body np ns b => exact .refl
        | thunk ns b => exact (leSL (ctx_le h k z) b _).bind fun _ => .refl
        | dice ns b => exact .refl
        | roll ns b => exact .refl
end Rf

set_option Elab.async false
set_option linter.all false
set_option maxRecDepth 100000
set_option maxHeartbeats 4000000
/-! R32: a body run over a list of states at once, by the kernel. -/
namespace Rf
open PySem
/-! ### the same -/
mutual
def eqD : PyData → PyData → Bool
  | .none, b => match b with
    | .none => true
    | _ => false
  | .bool a, b => match b with
    | .bool c => a == c
    | _ => false
  | .int a, b => match b with
    | .int c => decide (a = c)
    | _ => false
  | .str a, b => match b with
    | .str c => decide (a = c)
    | _ => false
  | .list a, b => match b with
    | .list c => eqDs a c
    | _ => false
  | .tuple a, b => match b with
    | .tuple c => eqDs a c
    | _ => false
  | .dict a, b => match a, b with
    | [], .dict [] => true
    | _, _ => false
def eqDs : List PyData → List PyData → Bool
  | [], l => l.isEmpty
  | a :: r, l => match l with
    | b :: s => eqD a b && eqDs r s
    | [] => false
end
mutual
theorem eqD_ok : ∀ (a b : PyData), eqD a b = true → a = b
  | .none, b, h => by
    cases b <;> first
      | rfl
      | exact absurd h (by show ¬ false = true; simp)
  | .bool a, b, h => by
    cases b with
    | bool c => rw [eq_of_beq (show (a == c) = true from h)]
    | _ => exact absurd (show false = true from h) (by simp)
  | .int a, b, h => by
    cases b with
    | int c => rw [of_decide_eq_true (show decide (a = c) = true from h)]
    | _ => exact absurd (show false = true from h) (by simp)
  | .str a, b, h => by
    cases b with
    | str c => rw [of_decide_eq_true (show decide (a = c) = true from h)]
    | _ => exact absurd (show false = true from h) (by simp)
  | .list a, b, h => by
    cases b with
    | list c => rw [eqDs_ok a c h]
    | _ => exact absurd (show false = true from h) (by simp)
  | .tuple a, b, h => by
    cases b with
    | tuple c => rw [eqDs_ok a c h]
    | _ => exact absurd (show false = true from h) (by simp)
  | .dict a, b, h => by
    cases a with
    | nil =>
      cases b with
      | dict c =>
        cases c with
        | nil => rfl
        | cons _ _ => exact absurd (show false = true from h) (by simp)
      | _ => exact absurd (show false = true from h) (by simp)
    | cons _ _ => exact absurd (show false = true from h) (by simp)
theorem eqDs_ok : ∀ (a b : List PyData), eqDs a b = true → a = b
  | [], b, h => by
    cases b with
    | nil => rfl
    | cons _ _ => exact absurd (show false = true from h) (by simp)
  | a :: r, b, h => by
    cases b with
    | nil => exact absurd (show false = true from h) (by simp)
    | cons b s =>
      have h : (eqD a b && eqDs r s) = true := h
      simp only [Bool.and_eq_true] at h
      rw [eqD_ok a b h.1, eqDs_ok r s h.2]
end
mutual
def eqV : Val → Val → Bool
  | .p a, .p b => eqD a b
  | .fn i, .fn j => decide (i = j)
  | .dice, .dice => true
  | .mt a, .mt b => eqVs a b
  | _, _ => false
def eqVs : List Val → List Val → Bool
  | [], [] => true
  | a :: r, b :: s => eqV a b && eqVs r s
  | _, _ => false
end
mutual
theorem eqV_ok : ∀ {a b : Val}, eqV a b = true → a = b
  | .p a, .p b, h => by
    simp only [eqV] at h
    rw [eqD_ok _ _ h]
  | .fn i, .fn j, h => by
    simp only [eqV, decide_eq_true_eq] at h
    rw [h]
  | .dice, .dice, _ => rfl
  | .mt a, .mt b, h => by
    simp only [eqV] at h
    rw [eqVs_ok h]
  | .p _, .fn _, h => by simp [eqV] at h
  | .p _, .dice, h => by simp [eqV] at h
  | .p _, .mt _, h => by simp [eqV] at h
  | .fn _, .p _, h => by simp [eqV] at h
  | .fn _, .dice, h => by simp [eqV] at h
  | .fn _, .mt _, h => by simp [eqV] at h
  | .dice, .p _, h => by simp [eqV] at h
  | .dice, .fn _, h => by simp [eqV] at h
  | .dice, .mt _, h => by simp [eqV] at h
  | .mt _, .p _, h => by simp [eqV] at h
  | .mt _, .fn _, h => by simp [eqV] at h
  | .mt _, .dice, h => by simp [eqV] at h
theorem eqVs_ok : ∀ {a b : List Val}, eqVs a b = true → a = b
  | [], [], _ => rfl
  | a :: r, b :: s, h => by
    simp only [eqVs, Bool.and_eq_true] at h
    rw [eqV_ok h.1, eqVs_ok h.2]
  | [], _ :: _, h => by simp [eqVs] at h
  | _ :: _, [], h => by simp [eqVs] at h
end
def eqO : Option Slot → Option Slot → Bool
  | none, none => true
  | some (.v a), some (.v b) => eqV a b
  | some (.own a), some (.own b) => eqDs a b
  | some .thk, some .thk => true
  | _, _ => false
theorem eqO_ok {a b : Option Slot} (h : eqO a b = true) : a = b := by
  unfold eqO at h
  split at h
  · rfl
  · rw [eqV_ok h]
  · rw [eqDs_ok _ _ h]
  · rfl
  · cases h
def eqSl : Sl → Sl → Bool
  | [], [] => true
  | a :: r, b :: s => eqO a b && eqSl r s
  | _, _ => false
theorem eqSl_ok : ∀ {a b : Sl}, eqSl a b = true → a = b
  | [], [], _ => rfl
  | a :: r, b :: s, h => by
    simp only [eqSl, Bool.and_eq_true] at h
    rw [eqO_ok h.1, eqSl_ok h.2]
  | [], _ :: _, h => by simp [eqSl] at h
  | _ :: _, [], h => by simp [eqSl] at h
def dedup : List Sl → List Sl → List Sl
  | [], acc => acc
  | s :: r, acc => cond (acc.any (eqSl s)) (dedup r acc) (dedup r (s :: acc))
theorem dedup_mem {σ : Sl} : ∀ (ss acc : List Sl), σ ∈ ss ∨ σ ∈ acc → σ ∈ dedup ss acc
  | [], acc, h => by
    rcases h with h | h
    · cases h
    · exact h
  | s :: r, acc, h => by
    unfold dedup
    cases e : acc.any (eqSl s) with
    | true =>
      refine dedup_mem r acc ?_
      rcases h with h | h
      · rcases List.mem_cons.mp h with rfl | h
        · obtain ⟨t, ht, q⟩ := List.any_eq_true.mp e
          rw [eqSl_ok q]
          exact .inr ht
        · exact .inl h
      · exact .inr h
    | false =>
      refine dedup_mem r (s :: acc) ?_
      rcases h with h | h
      · rcases List.mem_cons.mp h with rfl | h
        · exact .inr List.mem_cons_self
        · exact .inl h
      · exact .inr (List.mem_cons_of_mem _ h)
/-! ### all ends of an outcome -/
def catO {α β : Type} (f : α → Option (List β)) : List α → Option (List β)
  | [] => some []
  | a :: r => match f a with
    | none => none
    | some xs => match catO f r with
      | none => none
      | some ys => some (xs ++ ys)
theorem catO_ok {α β : Type} {f : α → Option (List β)} : ∀ {l : List α} {zs : List β}, catO f l = some zs → ∀ a ∈ l, ∃ xs, f a = some xs ∧ ∀ x ∈ xs, x ∈ zs
  | [], _, _, _, h => by cases h
  | a :: r, zs, e, b, h => by
    unfold catO at e
    cases e1 : f a with
    | none =>
      rw [e1] at e
      cases e
    | some xs =>
      rw [e1] at e
      cases e2 : catO f r with
      | none =>
        rw [e2] at e
        cases e
      | some ys =>
        rw [e2] at e
        cases e
        rcases List.mem_cons.mp h with rfl | h
        · exact ⟨xs, e1, fun x hx => List.mem_append_left _ hx⟩
        · obtain ⟨us, q1, q2⟩ := catO_ok e2 b h
          exact ⟨us, q1, fun x hx => List.mem_append_right _ (q2 x hx)⟩
/-- by halves, so that no chain of steps gets long -/
def catH {α β : Type} (f : List α → Option (List β)) : Nat → List α → Option (List β)
  | 0, l => f l
  | n + 1, l => cond (Nat.ble l.length 16) (f l) (match catH f n (l.take (l.length / 2)) with
    | none => none
    | some xs => match catH f n (l.drop (l.length / 2)) with
      | none => none
      | some ys => some (xs ++ ys))
theorem catH_ok {α β : Type} {f : List α → Option (List β)} : ∀ {n : Nat} {l : List α} {zs : List β}, catH f n l = some zs → ∀ a ∈ l, ∃ l' xs, a ∈ l' ∧ f l' = some xs ∧ ∀ x ∈ xs, x ∈ zs
  | 0, l, zs, e, a, h => ⟨l, zs, h, e, fun _ z => z⟩
  | n + 1, l, zs, e, a, h => by
    unfold catH at e
    cases eb : Nat.ble l.length 16 with
    | true =>
      rw [eb] at e
      exact ⟨l, zs, h, e, fun _ z => z⟩
    | false =>
      rw [eb] at e
      have e : (match catH f n (l.take (l.length / 2)) with
        | none => none
        | some xs => match catH f n (l.drop (l.length / 2)) with
          | none => none
          | some ys => some (xs ++ ys)) = some zs := e
      cases e1 : catH f n (l.take (l.length / 2)) with
      | none =>
        rw [e1] at e
        cases e
      | some xs =>
        rw [e1] at e
        simp only at e
        cases e2 : catH f n (l.drop (l.length / 2)) with
        | none =>
          rw [e2] at e
          cases e
        | some ys =>
          rw [e2] at e
          cases e
          rw [← List.take_append_drop (l.length / 2) l] at h
          rcases List.mem_append.mp h with h | h
          · obtain ⟨l', us, q1, q2, q3⟩ := catH_ok e1 a h
            exact ⟨l', us, q1, q2, fun x hx => List.mem_append_left _ (q3 x hx)⟩
          · obtain ⟨l', us, q1, q2, q3⟩ := catH_ok e2 a h
            exact ⟨l', us, q1, q2, fun x hx => List.mem_append_right _ (q3 x hx)⟩
def leaves {α : Type} : M α → Option (List α)
  | .ret a => some [a]
  | .roll n k => catO (fun i : Nat => leaves (k i)) (List.range n.toNat)
  | _ => none
theorem leaves_ok {α : Type} {Q : α → Prop} {E : Nat → Option PyData → Prop} : ∀ {m : M α} {l : List α}, leaves m = some l → (∀ a ∈ l, Q a) → m.wp Q E
  | .ret a, l, e, h => by
    cases e
    exact h a List.mem_cons_self
  | .roll n k, l, e, h => fun i h0 h1 => by
    obtain ⟨j, rfl⟩ := Int.eq_ofNat_of_zero_le h0
    obtain ⟨xs, e1, q⟩ := catO_ok (show catO (fun i : Nat => leaves (k i)) (List.range n.toNat) = some l from e) j (List.mem_range.mpr (by omega))
    exact leaves_ok e1 fun a ha => h a (q a ha)
  | .exc _ _, _, e, _ => by cases e
  | .any _ _, _, e, _ => by cases e
  | .stuck, _, e, _ => by cases e
/-! ### many states at once -/
abbrev FS := List (Fl × Sl)
def isNx : Fl × Sl → Bool
  | (.nx, _) => true
  | _ => false
def nexts : FS → List Sl
  | [] => []
  | (.nx, s) :: r => s :: nexts r
  | _ :: r => nexts r
def others : FS → FS
  | [] => []
  | (.nx, _) :: r => others r
  | f :: r => f :: others r
theorem fs_split {f : Fl × Sl} : ∀ {fs : FS}, f ∈ fs → (∃ s, f = (.nx, s) ∧ s ∈ nexts fs) ∨ (f ∈ others fs ∧ isNx f = false)
  | [], h => by cases h
  | g :: r, h => by
    rcases List.mem_cons.mp h with rfl | h
    · obtain ⟨k, s⟩ := f
      cases k with
      | nx => exact .inl ⟨s, rfl, List.mem_cons_self⟩
      | brk => exact .inr ⟨List.mem_cons_self, rfl⟩
      | cont => exact .inr ⟨List.mem_cons_self, rfl⟩
      | ret x => exact .inr ⟨List.mem_cons_self, rfl⟩
    · rcases fs_split h with ⟨s, rfl, q⟩ | ⟨q, z⟩
      · refine .inl ⟨s, rfl, ?_⟩
        obtain ⟨k, t⟩ := g
        cases k <;> first | exact List.mem_cons_of_mem _ q | exact q
      · refine .inr ⟨?_, z⟩
        obtain ⟨k, t⟩ := g
        cases k <;> first | exact List.mem_cons_of_mem _ q | exact q
/-- behind a turn of a loop: what goes on; what is left -/
def loopOn : FS → List Sl
  | [] => []
  | (.nx, s) :: r => s :: loopOn r
  | (.cont, s) :: r => s :: loopOn r
  | _ :: r => loopOn r
def loopOff : FS → FS
  | [] => []
  | (.brk, s) :: r => (.nx, s) :: loopOff r
  | (.ret x, s) :: r => (.ret x, s) :: loopOff r
  | _ :: r => loopOff r
theorem loop_on {f : Fl × Sl} : ∀ {fs : FS}, f ∈ fs → (match f.1 with
    | .nx => f.2 ∈ loopOn fs
    | .cont => f.2 ∈ loopOn fs
    | .brk => (Fl.nx, f.2) ∈ loopOff fs
    | .ret x => (Fl.ret x, f.2) ∈ loopOff fs)
  | [], h => by cases h
  | g :: r, h => by
    rcases List.mem_cons.mp h with rfl | h
    · obtain ⟨k, s⟩ := f
      cases k <;> exact List.mem_cons_self
    · have q := loop_on h
      obtain ⟨k, s⟩ := f
      obtain ⟨k2, t⟩ := g
      cases k <;> cases k2 <;> first | exact q | exact List.mem_cons_of_mem _ q
def putAll (g : G) (x : Val) : List Sl → Option (List Sl)
  | [] => some []
  | s :: r => match g.put x s with
    | none => none
    | some t => match putAll g x r with
      | none => none
      | some ts => some (t :: ts)
theorem putAll_ok {g : G} {x : Val} : ∀ {ss ts : List Sl}, putAll g x ss = some ts → ∀ s ∈ ss, ∃ t, g.put x s = some t ∧ t ∈ ts
  | [], _, _, _, h => by cases h
  | s :: r, ts, e, s', h => by
    unfold putAll at e
    cases e1 : g.put x s with
    | none =>
      rw [e1] at e
      cases e
    | some t =>
      rw [e1] at e
      cases e2 : putAll g x r with
      | none =>
        rw [e2] at e
        cases e
      | some us =>
        rw [e2] at e
        cases e
        rcases List.mem_cons.mp h with rfl | h
        · exact ⟨t, e1, List.mem_cons_self⟩
        · obtain ⟨u, q1, q2⟩ := putAll_ok e2 s' h
          exact ⟨u, q1, List.mem_cons_of_mem _ q2⟩
def forOuts (g : G) (f : List Sl → Option FS) : List Val → List Sl → Option FS
  | [], ss => some (ss.map fun s => (.nx, s))
  | x :: r, ss => match putAll g x ss with
    | none => none
    | some ts => match f ts with
      | none => none
      | some fs => match forOuts g f r (dedup (loopOn fs) []) with
        | none => none
        | some gs => some (loopOff fs ++ gs)
def boolsOut (C : Ctx) (c : E) : List Sl → Option (List Sl × List Sl)
  | [] => some ([], [])
  | s :: r => match leaves (evT C c s) with
    | none => none
    | some bs => match boolsOut C c r with
      | none => none
      | some (ts, us) => some (cond (bs.any id) (s :: ts) ts, cond (bs.any not) (s :: us) us)
theorem boolsOut_ok {C : Ctx} {c : E} : ∀ {ss ts us : List Sl}, boolsOut C c ss = some (ts, us) → ∀ s ∈ ss, ∃ bs, leaves (evT C c s) = some bs ∧ (true ∈ bs → s ∈ ts) ∧ (false ∈ bs → s ∈ us)
  | [], _, _, _, _, h => by cases h
  | s :: r, ts, us, e, s', h => by
    unfold boolsOut at e
    cases e1 : leaves (evT C c s) with
    | none =>
      rw [e1] at e
      cases e
    | some bs =>
      rw [e1] at e
      cases e2 : boolsOut C c r with
      | none =>
        rw [e2] at e
        cases e
      | some p =>
        obtain ⟨ts', us'⟩ := p
        rw [e2] at e
        cases e
        rcases List.mem_cons.mp h with rfl | h
        · refine ⟨bs, e1, fun q => ?_, fun q => ?_⟩
          · rw [List.any_eq_true.mpr ⟨true, q, rfl⟩]
            exact List.mem_cons_self
          · rw [List.any_eq_true.mpr ⟨false, q, rfl⟩]
            exact List.mem_cons_self
        · obtain ⟨bs', q1, q2, q3⟩ := boolsOut_ok e2 s' h
          refine ⟨bs', q1, fun q => ?_, fun q => ?_⟩
          · cases bs.any id
            · exact q2 q
            · exact List.mem_cons_of_mem _ (q2 q)
          · cases bs.any not
            · exact q3 q
            · exact List.mem_cons_of_mem _ (q3 q)
def frzOne (i : Nat) (s : Sl) : Sl := match s[i]? with
  | some (some (.own xs)) => s.set i (some (.v (.p (.list xs))))
  | _ => s
theorem frz_one {i : Nat} {m : Sl → M (Fl × Sl)} (s : Sl) : frzM i m s = m (frzOne i s) := by
  unfold frzM
  split
  · rename_i xs e
    unfold frzOne
    rw [e]
  · rename_i q
    unfold frzOne
    split
    · rename_i xs e
      exact absurd e (q xs)
    · rfl
mutual
def outsC (C : Ctx) : S → List Sl → Option FS
  | .for_ g it b, ss => catO (fun σ => match evI C it σ with
      | .ret (false, xs) => forOuts g (outsL C b) xs [σ]
      | _ => none) ss
  | .iff c a b, ss => match boolsOut C c ss with
    | none => none
    | some (ts, us) => match outsL C a ts with
      | none => none
      | some fs => match outsL C b us with
        | none => none
        | some gs => some (fs ++ gs)
  | s, ss => catO (fun σ => leaves (evS C s σ)) ss
def outsL (C : Ctx) : SL → List Sl → Option FS
  | .nil, ss => some (ss.map fun s => (.nx, s))
  | .cons s r, ss => match catH (fun l => outsC C s l) 14 ss with
    | none => none
    | some fs => match outsL C r (nexts fs) with
      | none => none
      | some gs => some (others fs ++ gs)
  | .frz i r, ss => outsL C r (ss.map (frzOne i))
  | .kill i r, ss => outsL C r (dedup (ss.map fun s => s.set i none) [])
end
section
variable {C : Ctx} {E : Nat → Option PyData → Prop}
theorem for_ok {g : G} {b : Sl → M (Fl × Sl)} {f : List Sl → Option FS} (hb : ∀ {ss : List Sl} {fs : FS}, f ss = some fs → ∀ s ∈ ss, (b s).wp (· ∈ fs) E) :
    ∀ {xs : List Val} {ss : List Sl} {fs : FS}, forOuts g f xs ss = some fs → ∀ s ∈ ss, (forF g b xs s).wp (· ∈ fs) E
  | [], ss, fs, e, s, h => by
    cases e
    exact List.mem_map.mpr ⟨s, h, rfl⟩
  | x :: r, ss, fs, e, s, h => by
    unfold forOuts at e
    cases e1 : putAll g x ss with
    | none =>
      rw [e1] at e
      cases e
    | some ts =>
      rw [e1] at e
      simp only at e
      cases e2 : f ts with
      | none =>
        rw [e2] at e
        cases e
      | some us =>
        rw [e2] at e
        simp only at e
        cases e3 : forOuts g f r (dedup (loopOn us) []) with
        | none =>
          rw [e3] at e
          cases e
        | some gs =>
          rw [e3] at e
          cases e
          obtain ⟨t, q1, q2⟩ := putAll_ok e1 s h
          have hw := hb e2 t q2
          show (M.bind (M.ofOpt (g.put x s)) _).wp _ _
          rw [q1]
          show (M.bind (b t) _).wp _ _
          rw [M.wp_bind]
          refine M.wp_mono _ hw (fun a ha => ?_) fun _ _ z => z
          have q := loop_on ha
          obtain ⟨k, s2⟩ := a
          cases k with
          | nx => exact M.wp_mono _ (for_ok hb e3 s2 (dedup_mem _ _ (.inl q))) (fun _ z => List.mem_append_right _ z) fun _ _ z => z
          | cont => exact M.wp_mono _ (for_ok hb e3 s2 (dedup_mem _ _ (.inl q))) (fun _ z => List.mem_append_right _ z) fun _ _ z => z
          | brk => exact List.mem_append_left _ q
          | ret y => exact List.mem_append_left _ q
theorem plain_ok {s : S} {ss : List Sl} {fs : FS} (e : catO (fun σ => leaves (evS C s σ)) ss = some fs) : ∀ σ ∈ ss, (evS C s σ).wp (· ∈ fs) E := fun σ h => by
  obtain ⟨xs, e1, q⟩ := catO_ok e σ h
  exact leaves_ok e1 fun a ha => q a ha
mutual
theorem outsC_ok : ∀ (s : S) {ss : List Sl} {fs : FS}, outsC C s ss = some fs → ∀ σ ∈ ss, (evS C s σ).wp (· ∈ fs) E
  | .for_ g it b, ss, fs, e, σ, h => by
    unfold outsC at e
    obtain ⟨xs, e1, q⟩ := catO_ok e σ h
    show (M.bind (evI C it σ) _).wp _ _
    split at e1
    · rename_i ys ei
      rw [ei]
      show (M.guard (!false) (forF g (evSL C b) ys σ)).wp _ _
      exact M.wp_mono _ (for_ok (fun {ss fs} z => outsL_ok b z) e1 σ List.mem_cons_self) (fun a ha => q a ha) fun _ _ z => z
    · cases e1
  | .iff c a b, ss, fs, e, σ, h => by
    unfold outsC at e
    cases e1 : boolsOut C c ss with
    | none =>
      rw [e1] at e
      cases e
    | some p =>
      obtain ⟨ts, us⟩ := p
      rw [e1] at e
      simp only at e
      cases e2 : outsL C a ts with
      | none =>
        rw [e2] at e
        cases e
      | some as =>
        rw [e2] at e
        simp only at e
        cases e3 : outsL C b us with
        | none =>
          rw [e3] at e
          cases e
        | some bs =>
          rw [e3] at e
          cases e
          obtain ⟨ks, q1, q2, q3⟩ := boolsOut_ok e1 σ h
          show (M.bind (evT C c σ) _).wp _ _
          rw [M.wp_bind]
          refine leaves_ok q1 fun k hk => ?_
          cases k with
          | true => exact M.wp_mono _ (outsL_ok a e2 σ (q2 hk)) (fun _ z => List.mem_append_left _ z) fun _ _ z => z
          | false => exact M.wp_mono _ (outsL_ok b e3 σ (q3 hk)) (fun _ z => List.mem_append_right _ z) fun _ _ z => z
  | .set _ _, _, _, e, σ, h => plain_ok e σ h
  | .unp _ _, _, _, e, σ, h => plain_ok e σ h
  | .par _ _, _, _, e, σ, h => plain_ok e σ h
  | .aug _ _ _, _, _, e, σ, h => plain_ok e σ h
  | .app _ _, _, _, e, σ, h => plain_ok e σ h
  | .ext _ _, _, _, e, σ, h => plain_ok e σ h
  | .pop _, _, _, e, σ, h => plain_ok e σ h
  | .ins _ _ _, _, _, e, σ, h => plain_ok e σ h
  | .unpg _ _, _, _, e, σ, h => plain_ok e σ h
  | .dset _ _ _, _, _, e, σ, h => plain_ok e σ h
  | .whl _ _, _, _, e, σ, h => plain_ok e σ h
  | .ret _, _, _, e, σ, h => plain_ok e σ h
  | .retN, _, _, e, σ, h => plain_ok e σ h
  | .expr _, _, _, e, σ, h => plain_ok e σ h
  | .raise0 _, _, _, e, σ, h => plain_ok e σ h
  | .raise1 _ _, _, _, e, σ, h => plain_ok e σ h
  | .tryc _ _ _, _, _, e, σ, h => plain_ok e σ h
  | .brk, _, _, e, σ, h => plain_ok e σ h
  | .cont, _, _, e, σ, h => plain_ok e σ h
  | .pass, _, _, e, σ, h => plain_ok e σ h
  | .bad, _, _, e, σ, h => plain_ok e σ h
theorem outsL_ok : ∀ (b : SL) {ss : List Sl} {fs : FS}, outsL C b ss = some fs → ∀ σ ∈ ss, (evSL C b σ).wp (· ∈ fs) E
  | .nil, ss, fs, e, σ, h => by
    cases e
    exact List.mem_map.mpr ⟨σ, h, rfl⟩
  | .cons s r, ss, fs, e, σ, h => by
    unfold outsL at e
    cases e1 : catH (fun l => outsC C s l) 14 ss with
    | none =>
      rw [e1] at e
      cases e
    | some as =>
      rw [e1] at e
      simp only at e
      cases e2 : outsL C r (nexts as) with
      | none =>
        rw [e2] at e
        cases e
      | some bs =>
        rw [e2] at e
        cases e
        show (M.bind (evS C s σ) _).wp _ _
        rw [M.wp_bind]
        obtain ⟨l', us, m1, m2, m3⟩ := catH_ok e1 σ h
        refine M.wp_mono _ (outsC_ok s m2 σ m1) (fun f hf => ?_) fun _ _ z => z
        have hf := m3 f hf
        rcases fs_split hf with ⟨t, rfl, q⟩ | ⟨q, z⟩
        · exact M.wp_mono _ (outsL_ok r e2 t q) (fun _ z => List.mem_append_right _ z) fun _ _ z => z
        · obtain ⟨k, t⟩ := f
          cases k with
          | nx => cases z
          | brk => exact List.mem_append_left _ q
          | cont => exact List.mem_append_left _ q
          | ret x => exact List.mem_append_left _ q
  | .frz i r, ss, fs, e, σ, h => by
    unfold outsL at e
    show (frzM i (evSL C r) σ).wp _ _
    rw [frz_one]
    exact outsL_ok r e _ (List.mem_map.mpr ⟨σ, h, rfl⟩)
  | .kill i r, ss, fs, e, σ, h => by
    unfold outsL at e
    exact outsL_ok r e _ (dedup_mem _ _ (.inl (List.mem_map.mpr ⟨σ, h, rfl⟩)))
end
end
def okF (q : Res → Bool) : Fl × Sl → Bool
  | (.nx, _) => q (.v (.p .none))
  | (.ret r, _) => q r.up
  | _ => false
def allOk (C : Ctx) (q : Res → Bool) (b : SL) (ss : List Sl) : Bool := match outsL C b ss with
  | some fs => fs.all (okF q)
  | none => false
theorem allOk_ok {C : Ctx} {q : Res → Bool} {b : SL} {ss : List Sl} {σ : Sl} {E : Nat → Option PyData → Prop} (h : allOk C q b ss = true) (hσ : σ ∈ ss) : ((evSL C b σ).bind flRes).wp (fun r => q r = true) E := by
  unfold allOk at h
  cases e : outsL C b ss with
  | none =>
    rw [e] at h
    cases h
  | some fs =>
    rw [e] at h
    rw [M.wp_bind]
    refine M.wp_mono _ (outsL_ok (E := E) b e σ hσ) (fun f hf => ?_) fun _ _ z => z
    have q := List.all_eq_true.mp h f hf
    obtain ⟨k, t⟩ := f
    cases k with
    | nx => exact q
    | brk => cases q
    | cont => cases q
    | ret r => exact q
def isTrue : Res → Bool
  | .v (.p (.bool true)) => true
  | _ => false
theorem le_true {m : M Res} (h : ∀ E, m.wp (fun r => isTrue r = true) E) : Le (.ret (rB true)) m := fun P E q => M.wp_mono _ (h E) (fun r z => by
  have e : r = .v (.p (.bool true)) := by
    unfold isTrue at z
    split at z
    · rfl
    · cases z
  rw [e]
  exact q) fun _ _ z => z
theorem isTrue_ok {r : Res} (h : isTrue r = true) : r = .v (.p (.bool true)) := by
  unfold isTrue at h
  split at h
  · rfl
  · cases h
end Rf

set_option Elab.async false
set_option linter.all false
set_option maxRecDepth 100000
set_option maxHeartbeats 4000000
/-! R33: what all laws share: the loop over the cells; what is forgotten behind it. -/
namespace Rf
open PySem
def strip : SL → List Nat × SL
  | .kill i r => (i :: (strip r).1, (strip r).2)
  | r => ([], r)
theorem strip_ev {C : Ctx} : ∀ (b : SL) (σ : Sl), evSL C b σ = evSL C (strip b).2 ((strip b).1.foldl (fun s i => s.set i none) σ)
  | .kill i r, σ => strip_ev r (σ.set i none)
  | .nil, _ => rfl
  | .cons _ _, _ => rfl
  | .frz _ _, _ => rfl
theorem fold_len : ∀ (ks : List Nat) (σ : Sl), (ks.foldl (fun s i => s.set i none) σ).length = σ.length
  | [], _ => rfl
  | k :: r, σ => by
    rw [List.foldl_cons, fold_len r, List.length_set]
theorem fold_at : ∀ (ks : List Nat) (σ : Sl) (i : Nat), i < σ.length → (i ∈ ks ∨ σ[i]? = some none) → (ks.foldl (fun s i => s.set i none) σ)[i]? = some none
  | [], _, _, _, h => by
    rcases h with h | h
    · cases h
    · exact h
  | k :: r, σ, i, hl, h => by
    rw [List.foldl_cons]
    refine fold_at r _ i (by rw [List.length_set]; exact hl) ?_
    by_cases e : k = i
    · subst e
      exact .inr (by rw [List.getElem?_set_self hl])
    · rw [List.getElem?_set_ne e]
      rcases h with h | h
      · rcases List.mem_cons.mp h with rfl | h
        · exact absurd rfl e
        · exact .inl h
      · exact .inr h
theorem fold_none {ks : List Nat} {σ : Sl} {N : Nat} (h : (List.range N).all (fun i => ks.contains i) = true) (hl : σ.length = N) : ks.foldl (fun s i => s.set i none) σ = List.replicate N none := by
  refine List.ext_getElem? fun i => ?_
  by_cases hi : i < N
  · rw [fold_at ks σ i (by omega) (.inl (by simpa using List.all_eq_true.mp h i (List.mem_range.mpr hi))), List.getElem?_replicate, if_pos hi]
  · rw [List.getElem?_eq_none (by rw [fold_len]; omega), List.getElem?_eq_none (by rw [List.length_replicate]; omega)]
/-- behind the loop nothing is known any more -/
def restB (C : Ctx) (q : Res → Bool) (b : SL) (N : Nat) : Bool := (List.range N).all (fun i => (strip b).1.contains i) && allOk C q (strip b).2 [List.replicate N none]
theorem forget {C : Ctx} {b : SL} {N : Nat} {q : Res → Bool} {E : Nat → Option PyData → Prop} (h : restB C q b N = true) (σ : Sl) (hl : σ.length = N) : ((evSL C b σ).bind flRes).wp (fun r => q r = true) E := by
  unfold restB at h
  simp only [Bool.and_eq_true] at h
  rw [strip_ev, fold_none h.1 hl]
  exact allOk_ok h.2 List.mem_cons_self
abbrev cellsI (K : Int) : I := .rng1 (.blt .max2 (.cons (.lit (.int 1)) (.cons (.blt .min2 (.cons (.lit (.int K)) (.cons (.blt .len (.cons (.var 0) .nil)) .nil))) .nil)))
theorem for_inv {g : G} {b : Sl → M (Fl × Sl)} {J : Sl → Prop} {E : Nat → Option PyData → Prop} : ∀ {xs : List Val} {σ : Sl}, (∀ x ∈ xs, ∀ σ, J σ → ∃ σ1, g.put x σ = some σ1 ∧ (b σ1).wp (fun fs => fs.1 = .nx ∧ J fs.2) E) → J σ → (forF g b xs σ).wp (fun fs => fs.1 = .nx ∧ J fs.2) E
  | [], _, _, j => ⟨rfl, j⟩
  | x :: r, σ, h, j => by
    obtain ⟨σ1, e, hb⟩ := h x List.mem_cons_self σ j
    show (M.bind (M.ofOpt (g.put x σ)) _).wp _ _
    rw [e]
    show (M.bind (b σ1) _).wp _ _
    rw [M.wp_bind]
    refine M.wp_mono _ hb (fun fs q => ?_) fun _ _ z => z
    obtain ⟨k, s⟩ := fs
    obtain ⟨rfl, j2⟩ := q
    exact for_inv (fun x hx => h x (List.mem_cons_of_mem _ hx)) j2
/-- the loop over the cells, from an entry where the name 0 holds the script -/
theorem cells {C : Ctx} {inner rest : SL} {N : Nat} {K : Int} {L : List PyData} {Q : Res → Prop} {E : Nat → Option PyData → Prop} (hN : 2 ≤ N) (hK : 0 < K) (hK2 : K < 1000)
    (hin : ∀ (i : Int) (τ : Sl), 0 ≤ i → i < 1000 → τ.length = N - 2 → (evSL C inner (some (.v (.p (.list L))) :: some (.v (.p (.int i))) :: τ)).wp (fun fs => fs.1 = .nx ∧ fs.2.length = N ∧ fs.2[0]? = some (some (.v (.p (.list L))))) E)
    (hrest : ∀ σ : Sl, σ.length = N → ((evSL C rest σ).bind flRes).wp Q E) :
    ((evSL C (.cons (.for_ (.name 1) (cellsI K) inner) rest) (startSl N [.p (.list L)])).bind flRes).wp Q E := by
  rw [M.wp_bind]
  show (M.bind (forM (.name 1) (evI C (cellsI K)) (evSL C inner) (startSl N [.p (.list L)])) _).wp _ _
  have e0 : startSl N [.p (.list L)] = some (.v (.p (.list L))) :: List.replicate (N - 1) none := rfl
  have hn : ∃ n : Nat, n ≤ 999 ∧ evI C (cellsI K) (startSl N [.p (.list L)]) = .ret (false, rangeL 0 n) := by
    have : evI C (cellsI K) (startSl N [.p (.list L)]) = .guard (decide (-(2 ^ 62) ≤ (if (if ((L.map Val.p).length : Int) < K then ((L.map Val.p).length : Int) else K) > 1 then (if ((L.map Val.p).length : Int) < K then ((L.map Val.p).length : Int) else K) else 1)) && decide ((if (if ((L.map Val.p).length : Int) < K then ((L.map Val.p).length : Int) else K) > 1 then (if ((L.map Val.p).length : Int) < K then ((L.map Val.p).length : Int) else K) else 1) < 2 ^ 62)) (.ret (false, rangeL 0 (if (if ((L.map Val.p).length : Int) < K then ((L.map Val.p).length : Int) else K) > 1 then (if ((L.map Val.p).length : Int) < K then ((L.map Val.p).length : Int) else K) else 1).toNat)) := by
      rw [e0]
      rfl
    rw [this]
    generalize ((L.map Val.p).length : Int) = l
    refine ⟨(if (if l < K then l else K) > 1 then (if l < K then l else K) else 1).toNat, ?_, ?_⟩
    · split <;> split <;> omega
    · refine guard_true ?_
      simp only [Bool.and_eq_true, decide_eq_true_eq]
      constructor <;> (split <;> split <;> omega)
  obtain ⟨n, hn1, hn⟩ := hn
  unfold forM
  rw [hn]
  show (M.bind (forF (.name 1) (evSL C inner) (rangeL 0 n) (startSl N [.p (.list L)])) _).wp _ _
  rw [M.wp_bind]
  refine M.wp_mono _ (for_inv (J := fun σ => σ.length = N ∧ σ[0]? = some (some (.v (.p (.list L))))) (fun x hx σ j => ?_) ⟨by rw [e0]; simp; omega, by rw [e0]; rfl⟩) (fun fs q => ?_) fun _ _ z => z
  · obtain ⟨i, hi, rfl⟩ := List.mem_map.mp hx
    have hi := List.mem_range.mp hi
    obtain ⟨j1, j2⟩ := j
    match σ, j1, j2 with
    | s0 :: s1 :: τ, j1, j2 =>
      have j2 : some s0 = some (some (.v (.p (.list L)))) := j2
      cases j2
      refine ⟨_, rfl, ?_⟩
      have q := hin (0 + (i : Int)) τ (by omega) (by omega) (by rw [← j1]; rfl)
      exact q
    | [s0], j1, _ =>
      have : [s0].length = 1 := rfl
      omega
    | [], j1, _ =>
      have : ([] : Sl).length = 0 := rfl
      omega
  · obtain ⟨k, s⟩ := fs
    obtain ⟨rfl, j, _⟩ := q
    have q := hrest s j
    rw [M.wp_bind] at q
    exact q
theorem callF_body {V : Wrl} {d f np ns : Nat} {b : SL} {xs : List Val} (e : V.defs[f]? = some (.body np ns b)) (h : xs.length = np) : callF V (d + 1) f xs = (evSL (V.ctx (callF V d) (callTF V d) .stuck) b (startSl ns xs)).bind flRes := by
  unfold callF
  rw [e]
  exact guard_true (by simp [h])
theorem callG_body {V : Wrl} {sm : Nat → List Val → Option (M Res)} {d f np ns : Nat} {b : SL} {xs : List Val} (e : V.defs[f]? = some (.body np ns b)) (es : sm f xs = none) (h : xs.length = np) : callG V sm (d + 1) f xs = (evSL (V.ctx (callG V sm d) (callTG V sm d) .stuck) b (startSl ns xs)).bind flRes := by
  unfold callG
  rw [es, e]
  exact guard_true (by simp [h])
theorem callG_sm {V : Wrl} {sm : Nat → List Val → Option (M Res)} {d f : Nat} {xs : List Val} {m : M Res} (es : sm f xs = some m) : callG V sm (d + 1) f xs = m := by
  unfold callG
  rw [es]
theorem callG_dice {V : Wrl} {sm : Nat → List Val → Option (M Res)} {d f ns : Nat} {b : SL} {L : List PyData} {i : Int} (e : V.defs[f]? = some (.dice ns b)) (es : sm f [.p (.list L), .p (.int i)] = none) : callG V sm (d + 1) f [.p (.list L), .p (.int i)] = .guard (intList L && decide (0 ≤ i) && decide (i < 1000)) (.ret (.v .dice)) := by
  unfold callG
  rw [es, e]
/-! ### kept closed, so that nobody looks inside -/
@[irreducible] def WT (m : M Res) : Prop := m.wp (fun r => isTrue r = true) fun _ _ => False
theorem WT.mk {m : M Res} (h : m.wp (fun r => isTrue r = true) fun _ _ => False) : WT m := by
  unfold WT
  exact h
theorem WT.wp {m : M Res} (h : WT m) : m.wp (fun r => isTrue r = true) fun _ _ => False := by
  unfold WT at h
  exact h
theorem Le.wt {m m' : M Res} (h : Le m m') (k : WT m) : WT m' := WT.mk (h _ _ k.wp)
theorem WT.to {m : M Res} (h : WT m) : m.wp (fun r => r = .v (.p (.bool true))) fun _ _ => False := M.wp_mono _ h.wp (fun _ q => isTrue_ok q) fun _ _ z => z
@[irreducible] def WI (L : List PyData) (N : Nat) (m : M (Fl × Sl)) : Prop := m.wp (fun fs => fs.1 = .nx ∧ fs.2.length = N ∧ fs.2[0]? = some (some (.v (.p (.list L))))) fun _ _ => False
theorem WI.mk {L : List PyData} {N : Nat} {m : M (Fl × Sl)} (h : m.wp (fun fs => fs.1 = .nx ∧ fs.2.length = N ∧ fs.2[0]? = some (some (.v (.p (.list L))))) fun _ _ => False) : WI L N m := by
  unfold WI
  exact h
theorem WI.wp {L : List PyData} {N : Nat} {m : M (Fl × Sl)} (h : WI L N m) : m.wp (fun fs => fs.1 = .nx ∧ fs.2.length = N ∧ fs.2[0]? = some (some (.v (.p (.list L))))) fun _ _ => False := by
  unfold WI at h
  exact h
theorem forgetW {C : Ctx} {b : SL} {N : Nat} (h : restB C isTrue b N = true) (σ : Sl) (hl : σ.length = N) : WT ((evSL C b σ).bind flRes) := WT.mk (forget h σ hl)
theorem cellsW {C : Ctx} {inner rest : SL} {N : Nat} {K : Int} {L : List PyData} (hN : 2 ≤ N) (hK : 0 < K) (hK2 : K < 1000)
    (hin : ∀ (i : Int) (τ : Sl), 0 ≤ i → i < 1000 → τ.length = N - 2 → WI L N (evSL C inner (some (.v (.p (.list L))) :: some (.v (.p (.int i))) :: τ)))
    (hrest : ∀ σ : Sl, σ.length = N → WT ((evSL C rest σ).bind flRes)) :
    WT ((evSL C (.cons (.for_ (.name 1) (cellsI K) inner) rest) (startSl N [.p (.list L)])).bind flRes) :=
  WT.mk (cells hN hK hK2 (fun i τ h0 h1 hl => (hin i τ h0 h1 hl).wp) fun σ hl => (hrest σ hl).wp)
theorem allOkW {C : Ctx} {b : SL} {σ : Sl} (h : allOk C isTrue b [σ] = true) : ∀ E, ((evSL C b σ).bind flRes).wp (fun r => isTrue r = true) E := fun _ => allOk_ok h List.mem_cons_self
/-- one function of the dice that comes to True -/
theorem rightW {V : Wrl} {d f ns : Nat} {b : SL} (e : V.defs[f]? = some (.body 1 ns b)) (h : allOk (V.ctx (callF V d) (callTF V d) .stuck) isTrue b [startSl ns [.dice]] = true) : Le (.ret (rB true)) (callF V (d + 1) f [.dice]) := le_true fun E => by
  rw [callF_body e rfl]
  exact allOkW h E
open PySem PySem.Spec PyProof.Rows L2 in
theorem law_walkW {l : PySem.W.OpenLaw} {n i dd : Nat} {q : Program} {loose : List Str} {XP : (Str → Option Value) → Heap → Prop} {d : DefRec} {as : (Addr → Option Obj) → List Addr} {X : Txt} (hn : l.most = some n) (hn2 : n ≤ sizeLine) (hdf : d.params.defaults = [])
    (hG : X.G.lookup d.name = some (.fn i)) (hf : l.prog.main.file = X.file) (ht : (l.prog.main.scope.names.lookup ("super" : Str)).isSome = false)
    (hD : ∀ (i ns : Nat) (b : SL), X.V.defs[i]? = some (.dice ns b) → DiceB X.V ns b) (hR : ∀ (i ns : Nat) (b : SL), X.V.defs[i]? = some (.roll ns b) → RollB X.V ns b) (hr : Room (4 * dd) callerA)
    (plain : ∀ ns : List Int, WT (callF X.V dd i [.p (.list (ns.map .int))])) :
    PySem.W.WalkO q loose XP (hookR as X).says l.row.toRowW d [] (fun f vs => PySem.call f vs) :=
  law_walk hn hn2 hdf hG hf ht hD hR hr fun ns _ => (plain ns).to
end Rf

set_option Elab.async false
set_option linter.all false
set_option maxRecDepth 100000
set_option maxHeartbeats 4000000
/-! R34: the same evaluator by recursors, each case a name of its own: what the kernel runs. -/
namespace Rf
open PySem
noncomputable def bx {α β : Type} (m : M α) (f : α → M β) : M β := @M.rec α (fun _ => M β) (fun a => f a) (fun c k => .exc c k) (fun n _ ih => .roll n ih) (fun p _ ih => .any p ih) .stuck m
theorem bx_eq {α β : Type} : ∀ (m : M α) (f : α → M β), bx m f = m.bind f
  | .ret _, _ => rfl
  | .exc _ _, _ => rfl
  | .roll n k, f => congrArg (M.roll n) (funext fun i => bx_eq (k i) f)
  | .any p k, f => congrArg (M.any p) (funext fun i => bx_eq (k i) f)
  | .stuck, _ => rfl
theorem bx_fun {α β : Type} : @bx α β = @M.bind α β := funext fun m => funext fun f => bx_eq m f
abbrev PE1 := (Sl → M Res) × (Sl → M Bool)
abbrev PL1 := (Sl → M (List Val)) × (Sl → M (List Res))
abbrev PO1 := (Sl → M (Option Int)) × (Sl → M Bool)
abbrev PI1 := Sl → M (Bool × List Val)
def noT : Sl → M Bool := fun _ => .stuck
section
variable (C : Ctx)

noncomputable def kVar (i : Nat) : PE1 := ⟨fun σ => varR σ i, fun σ => bx (varR σ i) truthM⟩
noncomputable def kLit (d : PyData) : PE1 := ⟨fun _ => .ret (.v (.p d)), noT⟩
noncomputable def kCst (k : Nat) : PE1 := ⟨fun _ => .ret (.v (.p (C.cst k))), noT⟩
noncomputable def kFnv (k : Nat) : PE1 := ⟨fun _ => .guard (Nat.blt k 1000000) (.ret (.v (.fn k))), noT⟩
noncomputable def kTup (es : EL) (l : PL1) : PE1 := ⟨fun σ => bx (l.1 σ) fun xs => .guard (decide (xs.length ≤ 16777216)) (.ret (.v (mkTup xs))), noT⟩
noncomputable def kLst (es : EL) (l : PL1) : PE1 := ⟨fun σ => bx (l.1 σ) fun xs => .guard (decide (xs.length ≤ 16777216)) (bx (M.ofOpt (dataAll xs)) fun ds => .ret (.l true ds)), noT⟩
noncomputable def kBin (o : Bop) (a b : E) (A B : PE1) : PE1 := ⟨fun σ => bx (A.1 σ) fun x => bx (B.1 σ) fun y => binR o x y, noT⟩
noncomputable def kNeg (a : E) (A : PE1) : PE1 := ⟨fun σ => bx (A.1 σ) fun x => bx (M.ofOpt x.int) fun i => .ret (rI (-i)), noT⟩
noncomputable def kNot (a : E) (A : PE1) : PE1 := ⟨fun σ => bx (A.1 σ) fun x => bx (M.ofOpt x.truth) fun k => .ret (rB (!k)), fun σ => bx (A.2 σ) fun k => .ret (!k)⟩
noncomputable def kAnd (a b : E) (A B : PE1) : PE1 := ⟨fun σ => bx (A.1 σ) fun x => bx (M.ofOpt x.bool) fun k => cond k (B.1 σ) (.ret (rB false)), fun σ => bx (A.2 σ) fun k => cond k (B.2 σ) (.ret false)⟩
noncomputable def kOr (a b : E) (A B : PE1) : PE1 := ⟨fun σ => bx (A.1 σ) fun x => bx (M.ofOpt x.bool) fun k => cond k (.ret (rB true)) (B.1 σ), fun σ => bx (A.2 σ) fun k => cond k (.ret true) (B.2 σ)⟩
noncomputable def kCmp (o : Cop) (a b : E) (A B : PE1) : PE1 := ⟨fun σ => bx (A.1 σ) fun x => bx (B.1 σ) fun y => bx (cmpR o x y) fun k => .ret (rB k), fun σ => bx (A.1 σ) fun x => bx (B.1 σ) fun y => cmpR o x y⟩
noncomputable def kCmp2 (o o' : Cop) (a b c : E) (A B D : PE1) : PE1 := ⟨fun σ => bx (A.1 σ) fun x => bx (B.1 σ) fun y => bx (cmpR o x y) fun k => cond k (bx (D.1 σ) fun z => bx (cmpR o' y z) fun k' => .ret (rB k')) (.ret (rB false)), fun σ => bx (A.1 σ) fun x => bx (B.1 σ) fun y => bx (cmpR o x y) fun k => cond k (bx (D.1 σ) fun z => cmpR o' y z) (.ret false)⟩
noncomputable def kIsn (neg : Bool) (a : E) (A : PE1) : PE1 := ⟨fun σ => bx (A.1 σ) fun x => bx (isNM neg x) fun k => .ret (rB k), fun σ => bx (A.1 σ) fun x => isNM neg x⟩
noncomputable def kIfe (c a b : E) (D A B : PE1) : PE1 := ⟨fun σ => bx (D.2 σ) fun k => cond k (A.1 σ) (B.1 σ), noT⟩
noncomputable def kCall (f : Nat) (es : EL) (l : PL1) : PE1 := ⟨fun σ => bx (l.1 σ) fun xs => C.call f xs, fun σ => bx (bx (l.1 σ) fun xs => C.call f xs) truthM⟩
noncomputable def kCallv (i : Nat) (es : EL) (l : PL1) : PE1 := ⟨fun σ => bx (fnAt σ i) fun f => bx (l.1 σ) fun xs => C.call f xs, fun σ => bx (bx (fnAt σ i) fun f => bx (l.1 σ) fun xs => C.call f xs) truthM⟩
noncomputable def kThunk (f : Nat) (b : E) (B : PE1) : PE1 := ⟨fun σ => C.wrap b (fun σ => C.callT f (bx (B.1 σ) fun r => .guard (!r.mine) (.ret r))) σ, noT⟩
noncomputable def kCallT (i : Nat) : PE1 := ⟨fun σ => thkAt C.thk i σ, noT⟩
noncomputable def kBlt (b : Blt) (es : EL) (l : PL1) : PE1 := ⟨fun σ => bx (l.2 σ) fun xs => Rf.blt b xs, fun σ => bx (bx (l.2 σ) fun xs => Rf.blt b xs) truthM⟩
noncomputable def kIdx (a b : E) (A B : PE1) : PE1 := ⟨fun σ => bx (A.1 σ) fun x => bx (B.1 σ) fun y => idxR x y, fun σ => bx (bx (A.1 σ) fun x => bx (B.1 σ) fun y => idxR x y) truthM⟩
noncomputable def kSlc (a : E) (lo hi : O) (A : PE1) (L H : PO1) : PE1 := ⟨fun σ => bx (A.1 σ) fun x => bx (L.1 σ) fun l => bx (H.1 σ) fun h => slcR x l h, noT⟩
noncomputable def kLc (e : E) (g : G) (it : I) (c : O) (A : PE1) (_u : Unit) (T : PI1) (D : PO1) : PE1 := ⟨fun σ => bx (T σ) fun p => .guard (decide (p.2.length < 16777216)) (bx (M.calm (M.each (fun x => bx (M.ofOpt (g.put x σ)) fun σ' => bx (D.2 σ') fun k => cond k (bx (A.1 σ') fun r => bx (M.ofOpt (r.toVal.bind Val.data)) fun d => .ret [d]) (.ret [])) p.2)) fun dss => .ret (.l true dss.flatten)), noT⟩
noncomputable def kErr (i : Nat) : PE1 := ⟨fun σ => thkAt C.err i σ, noT⟩
noncomputable def kDget (i j : Nat) : PE1 := ⟨fun σ => dgetM σ i j, noT⟩
noncomputable def kLrng1 (a : E) (A : PE1) : PE1 := ⟨fun σ => bx (A.1 σ) fun x => bx (M.ofOpt x.int) fun j => .guard (rgOkB 0 j) (.ret (.l true (rgD 0 j))), noT⟩
noncomputable def kLrng2 (a b : E) (A B : PE1) : PE1 := ⟨fun σ => bx (A.1 σ) fun x => bx (B.1 σ) fun y => bx (M.ofOpt x.int) fun i => bx (M.ofOpt y.int) fun j => .guard (rgOkB i j) (.ret (.l true (rgD i j))), noT⟩
noncomputable def kBad  : PE1 := ⟨fun _ => .stuck, noT⟩
noncomputable def kNil : PL1 := ⟨fun _ => .ret [], fun _ => .ret []⟩
noncomputable def kCons (e : E) (es : EL) (A : PE1) (l : PL1) : PL1 := ⟨fun σ => bx (A.1 σ) fun r => bx (M.ofOpt r.toVal) fun x => bx (l.1 σ) fun xs => .ret (x :: xs), fun σ => bx (A.1 σ) fun r => bx (l.2 σ) fun xs => .ret (r :: xs)⟩
noncomputable def kStar (e : E) (es : EL) (A : PE1) (l : PL1) : PL1 := ⟨fun σ => bx (A.1 σ) fun r => bx (M.ofOpt r.items) fun ys => bx (l.1 σ) fun xs => .ret (ys ++ xs), fun _ => .stuck⟩
noncomputable def kNone : PO1 := ⟨fun _ => .ret none, fun _ => .ret true⟩
noncomputable def kSome (e : E) (A : PE1) : PO1 := ⟨fun σ => bx (A.1 σ) fun r => bx (M.ofOpt r.int) fun i => .ret (some i), A.2⟩
noncomputable def kSeq (e : E) (A : PE1) : PI1 := fun σ => bx (A.1 σ) fun r => bx (M.ofOpt r.items) fun xs => .ret (r.mine, xs)
noncomputable def kRng1 (a : E) (A : PE1) : PI1 := fun σ => bx (A.1 σ) fun r => bx (M.ofOpt r.int) fun j => .guard (decide (-(2 ^ 62) ≤ j) && decide (j < 2 ^ 62)) (.ret (false, rangeL 0 j.toNat))
noncomputable def kRng2 (a b : E) (A B : PE1) : PI1 := fun σ => bx (A.1 σ) fun r => bx (B.1 σ) fun r' => bx (M.ofOpt r.int) fun i => bx (M.ofOpt r'.int) fun j =>
  .guard (decide (-(2 ^ 62) ≤ i) && decide (i < 2 ^ 62) && decide (-(2 ^ 62) ≤ j) && decide (j < 2 ^ 62)) (.ret (false, rangeL i (j - i).toNat))
noncomputable def kEnum (e : E) (A : PE1) : PI1 := fun σ => bx (A.1 σ) fun r => bx (M.ofOpt r.list) fun xs => .ret (r.mine, pairsL (rangeL 0 xs.length) (xs.map .p))
noncomputable def kEnumS (e : E) (k : Int) (A : PE1) : PI1 := fun σ => bx (A.1 σ) fun r => bx (M.ofOpt r.tupD) fun xs => .ret (false, pairsL (rangeL k xs.length) (xs.map .p))
noncomputable def kRng3 (a b c : E) (A B D : PE1) : PI1 := fun σ => bx (A.1 σ) fun r => bx (B.1 σ) fun r' => bx (D.1 σ) fun r'' => bx (M.ofOpt r.int) fun i => bx (M.ofOpt r'.int) fun j => bx (M.ofOpt r''.int) fun k =>
  .guard (decide (-(2 ^ 62) ≤ i) && decide (i < 2 ^ 62) && decide (-(2 ^ 62) ≤ j) && decide (j < 2 ^ 62) && decide (k = -1)) (.ret (false, downL i (i - j).toNat))
noncomputable def kZip (a b : E) (A B : PE1) : PI1 := fun σ => bx (A.1 σ) fun r => bx (B.1 σ) fun r' => zipR r r'
end
noncomputable def xE (C : Ctx) (e : E) : PE1 := @E.rec (fun _ => PE1) (fun _ => PL1) (fun _ => PO1) (fun _ => PI1) (fun _ => Unit) kVar kLit (kCst C) kFnv kTup kLst kBin kNeg kNot kAnd kOr kCmp kCmp2 kIsn kIfe (kCall C) (kCallv C) (kThunk C) (kCallT C) kBlt kIdx kSlc kLc (kErr C) kDget kLrng1 kLrng2 kBad kNil kCons kStar kNone kSome kSeq kRng1 kRng2 kEnum kZip kEnumS kRng3 (fun _ => ()) (fun _ => ()) (fun _ => ()) e
noncomputable def xL (C : Ctx) (e : EL) : PL1 := @EL.rec (fun _ => PE1) (fun _ => PL1) (fun _ => PO1) (fun _ => PI1) (fun _ => Unit) kVar kLit (kCst C) kFnv kTup kLst kBin kNeg kNot kAnd kOr kCmp kCmp2 kIsn kIfe (kCall C) (kCallv C) (kThunk C) (kCallT C) kBlt kIdx kSlc kLc (kErr C) kDget kLrng1 kLrng2 kBad kNil kCons kStar kNone kSome kSeq kRng1 kRng2 kEnum kZip kEnumS kRng3 (fun _ => ()) (fun _ => ()) (fun _ => ()) e
noncomputable def xO (C : Ctx) (e : O) : PO1 := @O.rec (fun _ => PE1) (fun _ => PL1) (fun _ => PO1) (fun _ => PI1) (fun _ => Unit) kVar kLit (kCst C) kFnv kTup kLst kBin kNeg kNot kAnd kOr kCmp kCmp2 kIsn kIfe (kCall C) (kCallv C) (kThunk C) (kCallT C) kBlt kIdx kSlc kLc (kErr C) kDget kLrng1 kLrng2 kBad kNil kCons kStar kNone kSome kSeq kRng1 kRng2 kEnum kZip kEnumS kRng3 (fun _ => ()) (fun _ => ()) (fun _ => ()) e
noncomputable def xI (C : Ctx) (e : I) : PI1 := @I.rec (fun _ => PE1) (fun _ => PL1) (fun _ => PO1) (fun _ => PI1) (fun _ => Unit) kVar kLit (kCst C) kFnv kTup kLst kBin kNeg kNot kAnd kOr kCmp kCmp2 kIsn kIfe (kCall C) (kCallv C) (kThunk C) (kCallT C) kBlt kIdx kSlc kLc (kErr C) kDget kLrng1 kLrng2 kBad kNil kCons kStar kNone kSome kSeq kRng1 kRng2 kEnum kZip kEnumS kRng3 (fun _ => ()) (fun _ => ()) (fun _ => ()) e
theorem ext2 {α β : Type} {p : α × β} {a : α} {b : β} (h : p = ⟨a, b⟩) : p.1 = a ∧ p.2 = b := by
  subst h
  exact ⟨rfl, rfl⟩
theorem stuck_bind {α β : Type} (f : α → M β) : (M.stuck : M α).bind f = .stuck := rfl
mutual
theorem xE_eq (C : Ctx) : ∀ e : E, (∀ σ, (xE C e).1 σ = evE C e σ) ∧ ∀ σ, (xE C e).2 σ = evT C e σ
  | .var i => ⟨fun _ => rfl, fun σ => bx_eq _ _⟩
  | .lit d => ⟨fun _ => rfl, fun _ => rfl⟩
  | .cst k => ⟨fun _ => rfl, fun _ => rfl⟩
  | .fnv k => ⟨fun _ => rfl, fun _ => rfl⟩
  | .tup es => ⟨fun σ => by
      show bx ((xL C es).1 σ) _ = _
      rw [(xL_eq C es).1, bx_eq]
      rfl, fun _ => rfl⟩
  | .lst es => ⟨fun σ => by
      show bx ((xL C es).1 σ) _ = _
      rw [(xL_eq C es).1, bx_eq]
      simp only [bx_fun]
      rfl, fun _ => rfl⟩
  | .bin o a b => ⟨fun σ => by
      show bx ((xE C a).1 σ) (fun x => bx ((xE C b).1 σ) _) = _
      rw [(xE_eq C a).1, (xE_eq C b).1]
      simp only [bx_fun]
      rfl, fun _ => rfl⟩
  | .neg a => ⟨fun σ => by
      show bx ((xE C a).1 σ) _ = _
      rw [(xE_eq C a).1]
      simp only [bx_fun]
      rfl, fun _ => rfl⟩
  | .not a => ⟨fun σ => by
      show bx ((xE C a).1 σ) _ = _
      rw [(xE_eq C a).1]
      simp only [bx_fun]
      rfl, fun σ => by
      show bx ((xE C a).2 σ) _ = _
      rw [(xE_eq C a).2]
      simp only [bx_fun]
      rfl⟩
  | .and a b => ⟨fun σ => by
      show bx ((xE C a).1 σ) (fun x => bx (M.ofOpt x.bool) fun k => cond k ((xE C b).1 σ) _) = _
      rw [(xE_eq C a).1, (xE_eq C b).1]
      simp only [bx_fun]
      rfl, fun σ => by
      show bx ((xE C a).2 σ) (fun k => cond k ((xE C b).2 σ) _) = _
      rw [(xE_eq C a).2, (xE_eq C b).2]
      simp only [bx_fun]
      rfl⟩
  | .or a b => ⟨fun σ => by
      show bx ((xE C a).1 σ) (fun x => bx (M.ofOpt x.bool) fun k => cond k _ ((xE C b).1 σ)) = _
      rw [(xE_eq C a).1, (xE_eq C b).1]
      simp only [bx_fun]
      rfl, fun σ => by
      show bx ((xE C a).2 σ) (fun k => cond k _ ((xE C b).2 σ)) = _
      rw [(xE_eq C a).2, (xE_eq C b).2]
      simp only [bx_fun]
      rfl⟩
  | .cmp o a b => ⟨fun σ => by
      show bx ((xE C a).1 σ) (fun x => bx ((xE C b).1 σ) _) = _
      rw [(xE_eq C a).1, (xE_eq C b).1]
      simp only [bx_fun]
      rfl, fun σ => by
      show bx ((xE C a).1 σ) (fun x => bx ((xE C b).1 σ) _) = _
      rw [(xE_eq C a).1, (xE_eq C b).1]
      simp only [bx_fun]
      rfl⟩
  | .cmp2 o o' a b c => ⟨fun σ => by
      show bx ((xE C a).1 σ) (fun x => bx ((xE C b).1 σ) fun y => bx (cmpR o x y) fun k => cond k (bx ((xE C c).1 σ) _) _) = _
      rw [(xE_eq C a).1, (xE_eq C b).1, (xE_eq C c).1]
      simp only [bx_fun]
      rfl, fun σ => by
      show bx ((xE C a).1 σ) (fun x => bx ((xE C b).1 σ) fun y => bx (cmpR o x y) fun k => cond k (bx ((xE C c).1 σ) _) _) = _
      rw [(xE_eq C a).1, (xE_eq C b).1, (xE_eq C c).1]
      simp only [bx_fun]
      rfl⟩
  | .isn neg a => ⟨fun σ => by
      show bx ((xE C a).1 σ) _ = _
      rw [(xE_eq C a).1]
      simp only [bx_fun]
      rfl, fun σ => by
      show bx ((xE C a).1 σ) _ = _
      rw [(xE_eq C a).1]
      simp only [bx_fun]
      rfl⟩
  | .ife c a b => ⟨fun σ => by
      show bx ((xE C c).2 σ) (fun k => cond k ((xE C a).1 σ) ((xE C b).1 σ)) = _
      rw [(xE_eq C c).2, (xE_eq C a).1, (xE_eq C b).1]
      simp only [bx_fun]
      rfl, fun _ => rfl⟩
  | .call f es => ⟨fun σ => by
      show bx ((xL C es).1 σ) _ = _
      rw [(xL_eq C es).1]
      simp only [bx_fun]
      rfl, fun σ => by
      show bx (bx ((xL C es).1 σ) _) _ = _
      rw [(xL_eq C es).1]
      simp only [bx_fun]
      rfl⟩
  | .callv i es => ⟨fun σ => by
      show bx (fnAt σ i) (fun f => bx ((xL C es).1 σ) _) = _
      rw [(xL_eq C es).1]
      simp only [bx_fun]
      rfl, fun σ => by
      show bx (bx (fnAt σ i) fun f => bx ((xL C es).1 σ) _) _ = _
      rw [(xL_eq C es).1]
      simp only [bx_fun]
      rfl⟩
  | .thunk f b => ⟨fun σ => by
      show C.wrap b (fun σ => C.callT f (bx ((xE C b).1 σ) _)) σ = _
      simp only [(xE_eq C b).1, bx_fun]
      rfl, fun _ => rfl⟩
  | .callT i => ⟨fun _ => rfl, fun _ => rfl⟩
  | .err i => ⟨fun _ => rfl, fun _ => rfl⟩
  | .dget i j => ⟨fun _ => rfl, fun _ => rfl⟩
  | .lrng1 a => ⟨fun σ => by
      show bx ((xE C a).1 σ) _ = _
      rw [(xE_eq C a).1]
      simp only [bx_fun]
      rfl, fun _ => rfl⟩
  | .lrng2 a b => ⟨fun σ => by
      show bx ((xE C a).1 σ) (fun x => bx ((xE C b).1 σ) _) = _
      rw [(xE_eq C a).1, (xE_eq C b).1]
      simp only [bx_fun]
      rfl, fun _ => rfl⟩
  | .bad => ⟨fun _ => rfl, fun _ => rfl⟩
  | .blt b es => ⟨fun σ => by
      show bx ((xL C es).2 σ) _ = _
      rw [(xL_eq C es).2]
      simp only [bx_fun]
      rfl, fun σ => by
      show bx (bx ((xL C es).2 σ) _) _ = _
      rw [(xL_eq C es).2]
      simp only [bx_fun]
      rfl⟩
  | .idx a b => ⟨fun σ => by
      show bx ((xE C a).1 σ) (fun x => bx ((xE C b).1 σ) _) = _
      rw [(xE_eq C a).1, (xE_eq C b).1]
      simp only [bx_fun]
      rfl, fun σ => by
      show bx (bx ((xE C a).1 σ) fun x => bx ((xE C b).1 σ) _) _ = _
      rw [(xE_eq C a).1, (xE_eq C b).1]
      simp only [bx_fun]
      rfl⟩
  | .slc a lo hi => ⟨fun σ => by
      show bx ((xE C a).1 σ) (fun x => bx ((xO C lo).1 σ) fun l => bx ((xO C hi).1 σ) _) = _
      rw [(xE_eq C a).1, (xO_eq C lo).1, (xO_eq C hi).1]
      simp only [bx_fun]
      rfl, fun _ => rfl⟩
  | .lc e g it c => ⟨fun σ => by
      show bx (xI C it σ) (fun p => .guard (decide (p.2.length < 16777216)) (bx (M.calm (M.each (fun x => bx (M.ofOpt (g.put x σ)) fun σ' => bx ((xO C c).2 σ') fun k => cond k (bx ((xE C e).1 σ') fun r => bx (M.ofOpt (r.toVal.bind Val.data)) fun d => .ret [d]) (.ret [])) p.2)) _)) = _
      rw [xI_eq C it]
      simp only [bx_fun, (xO_eq C c).2, (xE_eq C e).1]
      rfl, fun _ => rfl⟩
theorem xL_eq (C : Ctx) : ∀ es : EL, (∀ σ, (xL C es).1 σ = evL C es σ) ∧ ∀ σ, (xL C es).2 σ = evR C es σ
  | .nil => ⟨fun _ => rfl, fun _ => rfl⟩
  | .cons e es => ⟨fun σ => by
      show bx ((xE C e).1 σ) (fun r => bx (M.ofOpt r.toVal) fun x => bx ((xL C es).1 σ) _) = _
      rw [(xE_eq C e).1, (xL_eq C es).1]
      simp only [bx_fun]
      rfl, fun σ => by
      show bx ((xE C e).1 σ) (fun r => bx ((xL C es).2 σ) _) = _
      rw [(xE_eq C e).1, (xL_eq C es).2]
      simp only [bx_fun]
      rfl⟩
  | .star e es => ⟨fun σ => by
      show bx ((xE C e).1 σ) (fun r => bx (M.ofOpt r.items) fun ys => bx ((xL C es).1 σ) _) = _
      rw [(xE_eq C e).1, (xL_eq C es).1]
      simp only [bx_fun]
      rfl, fun _ => rfl⟩
theorem xO_eq (C : Ctx) : ∀ o : O, (∀ σ, (xO C o).1 σ = evO C o σ) ∧ ∀ σ, (xO C o).2 σ = evC C o σ
  | .none => ⟨fun _ => rfl, fun _ => rfl⟩
  | .some e => ⟨fun σ => by
      show bx ((xE C e).1 σ) _ = _
      rw [(xE_eq C e).1]
      simp only [bx_fun]
      rfl, fun σ => (xE_eq C e).2 σ⟩
theorem xI_eq (C : Ctx) : ∀ i : I, ∀ σ, xI C i σ = evI C i σ
  | .seq e, σ => by
    show bx ((xE C e).1 σ) _ = _
    rw [(xE_eq C e).1]
    simp only [bx_fun]
    rfl
  | .rng1 a, σ => by
    show bx ((xE C a).1 σ) _ = _
    rw [(xE_eq C a).1]
    simp only [bx_fun]
    rfl
  | .rng2 a b, σ => by
    show bx ((xE C a).1 σ) (fun r => bx ((xE C b).1 σ) _) = _
    rw [(xE_eq C a).1, (xE_eq C b).1]
    simp only [bx_fun]
    rfl
  | .enum e, σ => by
    show bx ((xE C e).1 σ) _ = _
    rw [(xE_eq C e).1]
    simp only [bx_fun]
    rfl
  | .zip a b, σ => by
    show bx ((xE C a).1 σ) (fun r => bx ((xE C b).1 σ) _) = _
    rw [(xE_eq C a).1, (xE_eq C b).1]
    simp only [bx_fun]
    rfl
  | .enumS e k, σ => by
    show bx ((xE C e).1 σ) _ = _
    rw [(xE_eq C e).1]
    simp only [bx_fun]
    rfl
  | .rng3 a b d, σ => by
    show bx ((xE C a).1 σ) (fun r => bx ((xE C b).1 σ) fun r' => bx ((xE C d).1 σ) _) = _
    rw [(xE_eq C a).1, (xE_eq C b).1, (xE_eq C d).1]
    simp only [bx_fun]
    rfl
end
end Rf

set_option Elab.async false
set_option linter.all false
set_option maxRecDepth 100000
set_option maxHeartbeats 4000000
/-! R35: the same of statements, of calls; a law's functions by it. -/
namespace Rf
open PySem
abbrev PS1 := (Sl → M (Fl × Sl)) × (List Sl → Option FS)
abbrev PH1 := Nat → Option PyData → Sl → M Res
def plainS (f : Sl → M (Fl × Sl)) : PS1 := ⟨f, fun ss => catO (fun σ => leaves (f σ)) ss⟩
section
variable (C : Ctx)
noncomputable def sSet (i : Nat) (e : E) : PS1 := plainS (setM i (xE C e).1)
noncomputable def sUnp (is : List Nat) (e : E) : PS1 := plainS (unpM is (xE C e).1)
noncomputable def sPar (is : List Nat) (es : EL) : PS1 := plainS (parM is (xL C es).2)
noncomputable def sAug (i : Nat) (o : Bop) (e : E) : PS1 := plainS (augM i o (xE C e).1)
noncomputable def sApp (i : Nat) (e : E) : PS1 := plainS (appM i (xE C e).1)
noncomputable def sExt (i : Nat) (e : E) : PS1 := plainS (extM i (xE C e).1)
noncomputable def sPop (i : Nat) : PS1 := plainS (popM i)
noncomputable def sIns (i : Nat) (a e : E) : PS1 := plainS (insM i (xE C a).1 (xE C e).1)
noncomputable def sUnpg (ts : List GT) (e : E) : PS1 := plainS (unpgM ts (xE C e).1)
noncomputable def sDset (i j : Nat) (e : E) : PS1 := plainS (dsetM i j (xE C e).1)
noncomputable def boolsX (f : Sl → M Bool) : List Sl → Option (List Sl × List Sl)
  | [] => some ([], [])
  | s :: r => match leaves (f s) with
    | none => none
    | some bs => match boolsX f r with
      | none => none
      | some (ts, us) => some (cond (bs.any id) (s :: ts) ts, cond (bs.any not) (s :: us) us)
noncomputable def sIff (c : E) (a b : SL) (A B : PS1) : PS1 := ⟨iffM (xE C c).2 A.1 B.1, fun ss => match boolsX (xE C c).2 ss with
    | none => none
    | some (ts, us) => match A.2 ts with
      | none => none
      | some fs => match B.2 us with
        | none => none
        | some gs => some (fs ++ gs)⟩
noncomputable def sWhl (c : E) (b : SL) (B : PS1) : PS1 := plainS fun σ => whileF (xE C c).2 B.1 C.fuel σ
noncomputable def sFor (g : G) (it : I) (b : SL) (B : PS1) : PS1 := ⟨forM g (xI C it) B.1, fun ss => catO (fun σ => match xI C it σ with
      | .ret (false, xs) => forOuts g B.2 xs [σ]
      | _ => none) ss⟩
noncomputable def sRet (e : E) : PS1 := plainS (retM (xE C e).1)
noncomputable def sRetN : PS1 := plainS fun σ => .ret (.ret (.v (.p .none)), σ)
noncomputable def sExpr (e : E) : PS1 := plainS (exprM (xE C e).1)
noncomputable def sRaise0 (c : Nat) : PS1 := plainS fun _ => .exc c none
noncomputable def sRaise1 (c : Nat) (e : E) : PS1 := plainS (rs1M c (xE C e).1)
noncomputable def sTryX (rt : Bool) (e : E) (hs : HL) (H : PH1) : PS1 := plainS (tryM rt (xE C e).1 H)
noncomputable def sBrk : PS1 := plainS fun σ => .ret (.brk, σ)
noncomputable def sCont : PS1 := plainS fun σ => .ret (.cont, σ)
noncomputable def sPass : PS1 := plainS fun σ => .ret (.nx, σ)
noncomputable def sBad : PS1 := plainS fun _ => .stuck
noncomputable def sNil : PS1 := ⟨fun σ => .ret (.nx, σ), fun ss => some (ss.map fun s => (.nx, s))⟩
noncomputable def sCons (s : S) (r : SL) (A B : PS1) : PS1 := ⟨seqM A.1 B.1, fun ss => match catH A.2 14 ss with
    | none => none
    | some fs => match B.2 (nexts fs) with
      | none => none
      | some gs => some (others fs ++ gs)⟩
noncomputable def sFrz (i : Nat) (r : SL) (B : PS1) : PS1 := ⟨frzM i B.1, fun ss => B.2 (ss.map (frzOne i))⟩
noncomputable def sKill (i : Nat) (r : SL) (B : PS1) : PS1 := ⟨killM i B.1, fun ss => B.2 (dedup (ss.map fun s => s.set i none) [])⟩
noncomputable def hNil : PH1 := fun c k _ => .exc c k
noncomputable def hCons (h : Nat) (nm : Option Nat) (e : E) (r : HL) (R : PH1) : PH1 := fun c k σ => cond (C.sub c h) (M.calm ((xE { C with err := kept (c == h && nm.isSome) k } e).1 (suiteSl nm σ))) (R c k σ)
noncomputable def xS (s : S) : PS1 := @S.rec (fun _ => PS1) (fun _ => PS1) (fun _ => PH1) (sSet C) (sUnp C) (sPar C) (sAug C) (sApp C) (sExt C) sPop (sIns C) (sUnpg C) (sDset C) (sIff C) (sWhl C) (sFor C) (sRet C) sRetN (sExpr C) sRaise0 (sRaise1 C) (sTryX C) sBrk sCont sPass sBad sNil sCons sFrz sKill hNil (hCons C) s
noncomputable def xSL (s : SL) : PS1 := @SL.rec (fun _ => PS1) (fun _ => PS1) (fun _ => PH1) (sSet C) (sUnp C) (sPar C) (sAug C) (sApp C) (sExt C) sPop (sIns C) (sUnpg C) (sDset C) (sIff C) (sWhl C) (sFor C) (sRet C) sRetN (sExpr C) sRaise0 (sRaise1 C) (sTryX C) sBrk sCont sPass sBad sNil sCons sFrz sKill hNil (hCons C) s
noncomputable def xHL (s : HL) : PH1 := @HL.rec (fun _ => PS1) (fun _ => PS1) (fun _ => PH1) (sSet C) (sUnp C) (sPar C) (sAug C) (sApp C) (sExt C) sPop (sIns C) (sUnpg C) (sDset C) (sIff C) (sWhl C) (sFor C) (sRet C) sRetN (sExpr C) sRaise0 (sRaise1 C) (sTryX C) sBrk sCont sPass sBad sNil sCons sFrz sKill hNil (hCons C) s
end
theorem boolsX_eq {C : Ctx} {c : E} : ∀ ss, boolsX (evT C c) ss = boolsOut C c ss
  | [] => rfl
  | s :: r => by
    unfold boolsX boolsOut
    rw [boolsX_eq r]
    try rfl
section
variable (C : Ctx)
theorem xE1 (e : E) : (xE C e).1 = evE C e := funext (xE_eq C e).1
theorem xE2 (e : E) : (xE C e).2 = evT C e := funext (xE_eq C e).2
theorem xL2 (e : EL) : (xL C e).2 = evR C e := funext (xL_eq C e).2
theorem xI1 (e : I) : xI C e = evI C e := funext (xI_eq C e)
theorem xH_eq (C : Ctx) (c : Nat) (k : Option PyData) : ∀ (h : HL) (σ : Sl), xHL C h c k σ = evH C c k h σ
  | .nil, _ => rfl
  | .cons h nm e r, σ => by
    show cond (C.sub c h) (M.calm ((xE { C with err := kept (c == h && nm.isSome) k } e).1 (suiteSl nm σ))) (xHL C r c k σ) = _
    rw [xH_eq C c k r, xE1]
    rfl
theorem plain_eq {s : S} {f : Sl → M (Fl × Sl)} (h : f = evS C s) (k : outsC C s = fun ss => catO (fun σ => leaves (evS C s σ)) ss) : (plainS f).1 = evS C s ∧ (plainS f).2 = outsC C s := by
  subst h
  exact ⟨rfl, k.symm⟩
mutual
theorem xS_eq : ∀ s : S, (xS C s).1 = evS C s ∧ (xS C s).2 = outsC C s
  | .set i e => plain_eq C (s := .set i e) (by rw [xE1]; rfl) rfl
  | .unp is e => plain_eq C (s := .unp is e) (by rw [xE1]; rfl) rfl
  | .par is es => plain_eq C (s := .par is es) (by rw [xL2]; rfl) rfl
  | .aug i o e => plain_eq C (s := .aug i o e) (by rw [xE1]; rfl) rfl
  | .app i e => plain_eq C (s := .app i e) (by rw [xE1]; rfl) rfl
  | .ext i e => plain_eq C (s := .ext i e) (by rw [xE1]; rfl) rfl
  | .pop i => plain_eq C (s := .pop i) rfl rfl
  | .ins i a e => plain_eq C (s := .ins i a e) (by rw [xE1, xE1]; rfl) rfl
  | .unpg ts e => plain_eq C (s := .unpg ts e) (by rw [xE1]; rfl) rfl
  | .dset i j e => plain_eq C (s := .dset i j e) (by rw [xE1]; rfl) rfl
  | .iff c a b => by
    refine ⟨?_, funext fun ss => ?_⟩
    · show iffM (xE C c).2 (xSL C a).1 (xSL C b).1 = _
      rw [xE2, (xSL_eq a).1, (xSL_eq b).1]
      rfl
    · show (match boolsX (xE C c).2 ss with
        | none => none
        | some (ts, us) => match (xSL C a).2 ts with
          | none => none
          | some fs => match (xSL C b).2 us with
            | none => none
            | some gs => some (fs ++ gs)) = _
      rw [xE2, boolsX_eq, (xSL_eq a).2, (xSL_eq b).2]
      rfl
  | .whl c b => plain_eq C (s := .whl c b) (by
      show (fun σ => whileF (xE C c).2 (xSL C b).1 C.fuel σ) = _
      rw [xE2, (xSL_eq b).1]
      rfl) rfl
  | .for_ g it b => by
    refine ⟨?_, funext fun ss => ?_⟩
    · show forM g (xI C it) (xSL C b).1 = _
      rw [xI1, (xSL_eq b).1]
      rfl
    · show catO (fun σ => match xI C it σ with
        | .ret (false, xs) => forOuts g (xSL C b).2 xs [σ]
        | _ => none) ss = _
      rw [xI1, (xSL_eq b).2]
      rfl
  | .ret e => plain_eq C (s := .ret e) (by rw [xE1]; rfl) rfl
  | .retN => plain_eq C (s := .retN) rfl rfl
  | .expr e => plain_eq C (s := .expr e) (by rw [xE1]; rfl) rfl
  | .raise0 c => plain_eq C (s := .raise0 c) rfl rfl
  | .raise1 c e => plain_eq C (s := .raise1 c e) (by rw [xE1]; rfl) rfl
  | .tryc rt e hs => plain_eq C (s := .tryc rt e hs) (by
      show tryM rt (xE C e).1 (xHL C hs) = _
      rw [xE1, show xHL C hs = fun c k => evH C c k hs from funext fun c => funext fun k => funext (xH_eq C c k hs)]
      rfl) rfl
  | .brk => plain_eq C (s := .brk) rfl rfl
  | .cont => plain_eq C (s := .cont) rfl rfl
  | .pass => plain_eq C (s := .pass) rfl rfl
  | .bad => plain_eq C (s := .bad) rfl rfl
theorem xSL_eq : ∀ s : SL, (xSL C s).1 = evSL C s ∧ (xSL C s).2 = outsL C s
  | .nil => ⟨rfl, rfl⟩
  | .cons s r => by
    refine ⟨?_, funext fun ss => ?_⟩
    · show seqM (xS C s).1 (xSL C r).1 = _
      rw [(xS_eq s).1, (xSL_eq r).1]
      rfl
    · show (match catH (xS C s).2 14 ss with
        | none => none
        | some fs => match (xSL C r).2 (nexts fs) with
          | none => none
          | some gs => some (others fs ++ gs)) = _
      rw [(xS_eq s).2, (xSL_eq r).2]
      rfl
  | .frz i r => by
    refine ⟨?_, funext fun ss => ?_⟩
    · show frzM i (xSL C r).1 = _
      rw [(xSL_eq r).1]
      rfl
    · show (xSL C r).2 (ss.map (frzOne i)) = _
      rw [(xSL_eq r).2]
      rfl
  | .kill i r => by
    refine ⟨?_, funext fun ss => ?_⟩
    · show killM i (xSL C r).1 = _
      rw [(xSL_eq r).1]
      rfl
    · show (xSL C r).2 (dedup (ss.map fun s => s.set i none) []) = _
      rw [(xSL_eq r).2]
      rfl
end
end
noncomputable def allX (C : Ctx) (q : Res → Bool) (b : SL) (ss : List Sl) : Bool := match (xSL C b).2 ss with
  | some fs => fs.all (okF q)
  | none => false
theorem allX_eq {C : Ctx} {q : Res → Bool} {b : SL} {ss : List Sl} : allX C q b ss = allOk C q b ss := by
  unfold allX allOk
  rw [(xSL_eq C b).2]
  try (cases outsL C b ss <;> rfl)
/-! ### calls -/
section
variable (V : Wrl) (sm : Nat → List Val → Option (M Res))
noncomputable def defX (c : Nat → List Val → M Res) (t : Nat → M Res → M Res) (xs : List Val) : Option Def → M Res
  | some (.body np ns b) => .guard (xs.length == np) (bx ((xSL (V.ctx c t .stuck) b).1 (startSl ns xs)) flRes)
  | some (.dice _ _) => match xs with
    | [.p (.list ns), .p (.int i)] => .guard (intList ns && decide (0 ≤ i) && decide (i < 1000)) (.ret (.v .dice))
    | _ => .stuck
  | some (.roll _ _) => match xs with
    | [.dice, .p (.int n)] => .guard (decide (0 < n) && decide (n < 1073741824)) (.roll n fun i => .ret (rI i))
    | _ => .stuck
  | _ => .stuck
noncomputable def callB (c : Nat → List Val → M Res) (t : Nat → M Res → M Res) (f : Nat) (xs : List Val) : M Res := match sm f xs with
  | some m => m
  | none => defX V c t xs V.defs[f]?
noncomputable def thkX (c : Nat → List Val → M Res) (t : Nat → M Res → M Res) (m : M Res) : Option Def → M Res
  | some (.thunk ns b) => bx ((xSL (V.ctx c t m) b).1 (some .thk :: List.replicate (ns - 1) none)) flRes
  | _ => .stuck
noncomputable def callX (d : Nat) : (Nat → List Val → M Res) × (Nat → M Res → M Res) :=
  @Nat.rec (fun _ => (Nat → List Val → M Res) × (Nat → M Res → M Res)) ⟨fun _ _ => .stuck, fun _ _ => .stuck⟩ (fun _ ih => ⟨callB V sm ih.1 ih.2, fun f m => thkX V ih.1 ih.2 m V.defs[f]?⟩) d
noncomputable def ctxX (d : Nat) : Ctx := V.ctx (callX V sm d).1 (callX V sm d).2 .stuck
end
theorem callX_eq (V : Wrl) (sm : Nat → List Val → Option (M Res)) : ∀ d, (callX V sm d).1 = callG V sm d ∧ (callX V sm d).2 = callTG V sm d
  | 0 => ⟨funext fun f => funext fun xs => by unfold callG; rfl, funext fun f => funext fun m => by unfold callTG; rfl⟩
  | d + 1 => by
    obtain ⟨h, k⟩ := callX_eq V sm d
    refine ⟨funext fun f => funext fun xs => ?_, funext fun f => funext fun m => ?_⟩
    · show callB V sm (callX V sm d).1 (callX V sm d).2 f xs = _
      rw [h, k]
      unfold callB callG
      cases sm f xs with
      | some m => rfl
      | none =>
        cases V.defs[f]? with
        | none => rfl
        | some df =>
          cases df with
          | body np ns b =>
            show M.guard _ (bx _ _) = _
            rw [bx_eq, (xSL_eq _ b).1]
          | thunk ns b => rfl
          | dice ns b => rfl
          | roll ns b => rfl
    · show thkX V (callX V sm d).1 (callX V sm d).2 m V.defs[f]? = _
      rw [h, k]
      unfold callTG
      cases V.defs[f]? with
      | none => rfl
      | some df =>
        cases df with
        | body np ns b => rfl
        | thunk ns b =>
          show bx _ _ = _
          rw [bx_eq, (xSL_eq _ b).1]
        | dice ns b => rfl
        | roll ns b => rfl
theorem ctxX_eq {V : Wrl} {sm : Nat → List Val → Option (M Res)} {d : Nat} : ctxX V sm d = V.ctx (callG V sm d) (callTG V sm d) .stuck := by
  unfold ctxX
  rw [(callX_eq V sm d).1, (callX_eq V sm d).2]
def noSm : Nat → List Val → Option (M Res) := fun _ _ => none
/-- what a summary says holds, from a depth on -/
def SmOk (V : Wrl) (sm : Nat → List Val → Option (M Res)) (D : Nat) : Prop := ∀ f xs m, sm f xs = some m → Le m (callF V D f xs)
theorem noSm_ok (V : Wrl) : SmOk V noSm 0 := fun _ _ _ h => by cases h
/-- one function that comes to True -/
theorem trueX {V : Wrl} {sm : Nat → List Val → Option (M Res)} {D d f np ns : Nat} {b : SL} {xs : List Val} (S : SmOk V sm D) (e : V.defs[f]? = some (.body np ns b)) (hl : xs.length = np) (h : allX (ctxX V sm d) isTrue b [startSl ns xs] = true) : Le (.ret (rB true)) (callF V (D + (d + 1)) f xs) := by
  rw [allX_eq, ctxX_eq] at h
  refine Le.trans (b := (evSL (V.ctx (callG V sm d) (callTG V sm d) .stuck) b (startSl ns xs)).bind flRes) (le_true fun E => allOkW h E) ?_
  show Le _ (callF V ((D + d) + 1) f xs)
  rw [callF_body e hl]
  obtain ⟨q1, q2⟩ := callG_le V sm D S d
  exact (leSL (ctx_le q1 q2 .refl) b _).bind fun _ => .refl
theorem restX {V : Wrl} {sm : Nat → List Val → Option (M Res)} {d N : Nat} {b : SL} (h : ((List.range N).all (fun i => (strip b).1.contains i) && allX (ctxX V sm d) isTrue (strip b).2 [List.replicate N none]) = true) (σ : Sl) (hl : σ.length = N) : WT ((evSL (V.ctx (callG V sm d) (callTG V sm d) .stuck) b σ).bind flRes) := by
  rw [allX_eq, ctxX_eq] at h
  exact forgetW h σ hl
/-- as one test -/
noncomputable def restXB (V : Wrl) (sm : Nat → List Val → Option (M Res)) (d N : Nat) (b : SL) : Bool := (List.range N).all (fun i => (strip b).1.contains i) && allX (ctxX V sm d) isTrue (strip b).2 [List.replicate N none]
theorem restXB_ok {V : Wrl} {sm : Nat → List Val → Option (M Res)} {d N : Nat} {b : SL} (h : restXB V sm d N b = true) (σ : Sl) (hl : σ.length = N) : WT ((evSL (V.ctx (callG V sm d) (callTG V sm d) .stuck) b σ).bind flRes) := restX h σ hl
end Rf

set_option Elab.async false
set_option linter.all false
set_option maxRecDepth 100000
set_option maxHeartbeats 4000000
/-! R36: a body in two parts; the second one by pieces of the states. -/
namespace Rf
open PySem
def takeS : Nat → SL → SL
  | 0, _ => .nil
  | n + 1, .cons s r => .cons s (takeS n r)
  | n + 1, .kill i r => .kill i (takeS (n + 1) r)
  | n + 1, .frz i r => .frz i (takeS (n + 1) r)
  | _ + 1, .nil => .nil
def dropS : Nat → SL → SL
  | 0, b => b
  | n + 1, .cons _ r => dropS n r
  | n + 1, .kill _ r => dropS (n + 1) r
  | n + 1, .frz _ r => dropS (n + 1) r
  | _ + 1, .nil => .nil
theorem seq_assoc (f g h : Sl → M (Fl × Sl)) (σ : Sl) : seqM (seqM f g) h σ = seqM f (seqM g h) σ := by
  unfold seqM
  rw [M.bind_bind]
  refine congrArg _ (funext fun fs => ?_)
  obtain ⟨k, s⟩ := fs
  cases k <;> rfl
theorem ev_split {C : Ctx} : ∀ (n : Nat) (b : SL) (σ : Sl), evSL C b σ = seqM (evSL C (takeS n b)) (evSL C (dropS n b)) σ
  | 0, _, _ => by
    unfold takeS dropS
    rfl
  | n + 1, .cons s r, σ => by
    unfold takeS dropS
    show seqM (evS C s) (evSL C r) σ = seqM (seqM (evS C s) (evSL C (takeS n r))) (evSL C (dropS n r)) σ
    rw [seq_assoc]
    unfold seqM
    refine congrArg _ (funext fun fs => ?_)
    obtain ⟨k, s2⟩ := fs
    cases k <;> first | rfl | exact ev_split n r s2
  | n + 1, .kill i r, σ => by
    unfold takeS dropS
    exact ev_split (n + 1) r _
  | n + 1, .frz i r, σ => by
    unfold takeS dropS
    show frzM i (evSL C r) σ = seqM (frzM i (evSL C (takeS (n + 1) r))) (evSL C (dropS (n + 1) r)) σ
    rw [frz_one]
    show _ = (frzM i (evSL C (takeS (n + 1) r)) σ).bind _
    rw [frz_one]
    exact ev_split (n + 1) r _
  | n + 1, .nil, σ => by
    unfold takeS dropS
    rfl
noncomputable def preX (C : Ctx) (q : Res → Bool) (n : Nat) (b : SL) (ss : List Sl) : Option (List Sl) := match (xSL C (takeS n b)).2 ss with
  | some fs => cond ((others fs).all (okF q)) (some (nexts fs)) none
  | none => none
noncomputable def chunkX (C : Ctx) (q : Res → Bool) (n : Nat) (b : SL) (ss : List Sl) (m i : Nat) : Bool := match preX C q n b ss with
  | some l => allX C q (dropS n b) ((l.drop (i * m)).take m)
  | none => false
noncomputable def lenX (C : Ctx) (q : Res → Bool) (n : Nat) (b : SL) (ss : List Sl) (m : Nat) : Bool := match preX C q n b ss with
  | some l => Nat.ble l.length m
  | none => false
theorem chunks {C : Ctx} {q : Res → Bool} {n : Nat} {b : SL} {σ : Sl} {m k : Nat} {E : Nat → Option PyData → Prop} (hm : 0 < m) (hl : lenX C q n b [σ] (k * m) = true) (h : ∀ i, i < k → chunkX C q n b [σ] m i = true) : ((evSL C b σ).bind flRes).wp (fun r => q r = true) E := by
  unfold lenX at hl
  unfold chunkX at h
  cases ep : preX C q n b [σ] with
  | none =>
    rw [ep] at hl
    cases hl
  | some l =>
    rw [ep] at hl h
    have hl : l.length ≤ k * m := Nat.le_of_ble_eq_true hl
    have h : ∀ i, i < k → allX C q (dropS n b) ((l.drop (i * m)).take m) = true := h
    have pw : (evSL C (takeS n b) σ).wp (fun f => (∃ s, f = (.nx, s) ∧ s ∈ l) ∨ (okF q f = true ∧ isNx f = false)) E := by
      unfold preX at ep
      cases eo : (xSL C (takeS n b)).2 [σ] with
      | none =>
        rw [eo] at ep
        cases ep
      | some fs =>
        rw [eo] at ep
        have ep : (bif (others fs).all (okF q) then some (nexts fs) else none) = some l := ep
        cases ea : (others fs).all (okF q) with
        | false =>
          rw [ea] at ep
          cases ep
        | true =>
          rw [ea] at ep
          cases ep
          rw [(xSL_eq C _).2] at eo
          refine M.wp_mono _ (outsL_ok (E := E) _ eo σ List.mem_cons_self) (fun f hf => ?_) fun _ _ z => z
          rcases fs_split hf with ⟨s, e, z⟩ | ⟨z1, z2⟩
          · exact .inl ⟨s, e, z⟩
          · exact .inr ⟨List.all_eq_true.mp ea f z1, z2⟩
    rw [ev_split n b σ, M.wp_bind]
    unfold seqM
    rw [M.wp_bind]
    refine M.wp_mono _ pw (fun f hf => ?_) fun _ _ z => z
    rcases hf with ⟨s, rfl, hs⟩ | ⟨h1, h2⟩
    · obtain ⟨j, hj, ej⟩ := List.getElem_of_mem hs
      have hi : j / m < k := Nat.div_lt_of_lt_mul (by rw [Nat.mul_comm]; omega)
      have e := h (j / m) hi
      rw [allX_eq] at e
      have hmem : s ∈ (l.drop (j / m * m)).take m := by
        have hlt : j % m < m := Nat.mod_lt _ hm
        have hd : j = j / m * m + j % m := by rw [Nat.mul_comm]; exact (Nat.div_add_mod j m).symm
        refine List.mem_iff_getElem?.mpr ⟨j % m, ?_⟩
        rw [List.getElem?_take, if_pos hlt, List.getElem?_drop, ← hd, List.getElem?_eq_getElem hj, ej]
      have w := allOk_ok (E := E) e hmem
      rw [M.wp_bind] at w
      exact w
    · obtain ⟨k2, s⟩ := f
      cases k2 with
      | nx => cases h2
      | brk => cases h1
      | cont => cases h1
      | ret r => exact h1
theorem trueC {V : Wrl} {sm : Nat → List Val → Option (M Res)} {D d f np ns n m k : Nat} {b : SL} {xs : List Val} (S : SmOk V sm D) (e : V.defs[f]? = some (.body np ns b)) (hl : xs.length = np) (hm : 0 < m)
    (hk : lenX (ctxX V sm d) isTrue n b [startSl ns xs] (k * m) = true) (h : ∀ i, i < k → chunkX (ctxX V sm d) isTrue n b [startSl ns xs] m i = true) : Le (.ret (rB true)) (callF V (D + (d + 1)) f xs) := by
  refine Le.trans (b := (evSL (V.ctx (callG V sm d) (callTG V sm d) .stuck) b (startSl ns xs)).bind flRes) (le_true fun E => ?_) ?_
  · have q := chunks (E := E) hm hk h
    rw [ctxX_eq] at q
    exact q
  · show Le _ (callF V ((D + d) + 1) f xs)
    rw [callF_body e hl]
    obtain ⟨q1, q2⟩ := callG_le V sm D S d
    exact (leSL (ctx_le q1 q2 .refl) b _).bind fun _ => .refl
end Rf

set_option Elab.async false
set_option linter.all false
set_option maxRecDepth 100000
set_option maxHeartbeats 4000000
/-! R37: values that are not yet looked at (holes: `.fn` from 1000000 on); a run that gets through with holes gets through alike whatever stands in them. -/
namespace Rf
open PySem
/-- m' is m, its values led by f, where m is not stuck -/
def Im {α β : Type} (f : α → β) : M α → M β → Prop
  | .ret a, m' => m' = .ret (f a)
  | .exc c k, m' => m' = .exc c k
  | .roll n k, m' => ∃ k', m' = .roll n k' ∧ ∀ i, Im f (k i) (k' i)
  | .any p k, m' => ∃ k', m' = .any p k' ∧ ∀ i, Im f (k i) (k' i)
  | .stuck, _ => True
section
variable {α β γ δ : Type}
theorem Im.ret {f : α → β} {a : α} {b : β} (h : b = f a) : Im f (.ret a) (.ret b) := by rw [h]; rfl
theorem Im.exc {f : α → β} {c : Nat} {k : Option PyData} : Im f (.exc c k) (.exc c k) := rfl
theorem Im.stuck {f : α → β} {m : M β} : Im f .stuck m := trivial
theorem Im.bind0 {f : α → β} {g : γ → δ} {h : α → M γ} {h' : β → M δ} (k : ∀ a, Im g (h a) (h' (f a))) : ∀ {m : M α} {m' : M β}, Im f m m' → Im g (m.bind h) (m'.bind h')
  | .ret a, _, e => by
    rw [show _ = M.ret (f a) from e]
    exact k a
  | .exc _ _, _, e => by
    rw [show _ = M.exc _ _ from e]
    rfl
  | .roll _ _, _, e => by
    obtain ⟨k', rfl, q⟩ := e
    exact ⟨_, rfl, fun i => Im.bind0 k (q i)⟩
  | .any _ _, _, e => by
    obtain ⟨k', rfl, q⟩ := e
    exact ⟨_, rfl, fun i => Im.bind0 k (q i)⟩
  | .stuck, _, _ => trivial
theorem Im.bind {f : α → β} {g : γ → δ} {m : M α} {m' : M β} {h : α → M γ} {h' : β → M δ} (e : Im f m m') (k : ∀ a, Im g (h a) (h' (f a))) : Im g (m.bind h) (m'.bind h') := Im.bind0 k e
theorem Im.handle0 {f : α → β} {g : γ → δ} {h : α → M γ} {h' : β → M δ} {e e' : Nat → Option PyData → M _} (k : ∀ a, Im g (h a) (h' (f a))) (k2 : ∀ c d, Im g (e c d) (e' c d)) : ∀ {m : M α} {m' : M β}, Im f m m' → Im g (m.handle h e) (m'.handle h' e')
  | .ret a, _, z => by
    rw [show _ = M.ret (f a) from z]
    exact k a
  | .exc _ _, _, z => by
    rw [show _ = M.exc _ _ from z]
    exact k2 _ _
  | .roll _ _, _, z => by
    obtain ⟨k', rfl, q⟩ := z
    exact ⟨_, rfl, fun i => Im.handle0 k k2 (q i)⟩
  | .any _ _, _, z => by
    obtain ⟨k', rfl, q⟩ := z
    exact ⟨_, rfl, fun i => Im.handle0 k k2 (q i)⟩
  | .stuck, _, _ => trivial
theorem Im.handle {f : α → β} {g : γ → δ} {m : M α} {m' : M β} {h : α → M γ} {h' : β → M δ} {e e' : Nat → Option PyData → M _} (z : Im f m m') (k : ∀ a, Im g (h a) (h' (f a))) (k2 : ∀ c d, Im g (e c d) (e' c d)) : Im g (m.handle h e) (m'.handle h' e') := Im.handle0 k k2 z
theorem Im.calm {f : α → β} : ∀ {m : M α} {m' : M β}, Im f m m' → Im f m.calm m'.calm
  | .ret a, _, e => by
    rw [show _ = M.ret (f a) from e]
    rfl
  | .exc _ _, _, _ => trivial
  | .roll _ _, _, e => by
    obtain ⟨k', rfl, q⟩ := e
    exact ⟨_, rfl, fun i => Im.calm (q i)⟩
  | .any _ _, _, e => by
    obtain ⟨k', rfl, q⟩ := e
    exact ⟨_, rfl, fun i => Im.calm (q i)⟩
  | .stuck, _, _ => trivial
theorem Im.wp {f : α → β} {Q : β → Prop} {E : Nat → Option PyData → Prop} : ∀ {m : M α} {m' : M β}, Im f m m' → m.wp (fun a => Q (f a)) E → m'.wp Q E
  | .ret a, _, e, h => by
    rw [show _ = M.ret (f a) from e]
    exact h
  | .exc _ _, _, e, h => by
    rw [show _ = M.exc _ _ from e]
    exact h
  | .roll _ _, _, e, h => by
    obtain ⟨k', rfl, q⟩ := e
    exact fun i a b => Im.wp (q i) (h i a b)
  | .any _ _, _, e, h => by
    obtain ⟨k', rfl, q⟩ := e
    exact fun i a => Im.wp (q i) (h i a)
  | .stuck, _, _, h => h.elim
theorem Im.guard {f : α → β} {b b' : Bool} {m : M α} {m' : M β} (e : b = b') (h : Im f m m') : Im f (.guard b m) (.guard b' m') := by
  subst e
  cases b
  · exact trivial
  · exact h
theorem Im.cond {f : α → β} {b : Bool} {m n : M α} {m' n' : M β} (h : Im f m m') (k : Im f n n') : Im f (cond b m n) (cond b m' n') := by
  cases b
  · exact k
  · exact h
theorem Im.ofOpt {f : α → β} {o : Option α} {o' : Option β} (h : ∀ a, o = some a → o' = some (f a)) : Im f (M.ofOpt o) (M.ofOpt o') := by
  cases o with
  | none => exact trivial
  | some a =>
    rw [h a rfl]
    rfl
theorem Im.each {f : α → β} {h : α → M γ} {h' : β → M γ} (k : ∀ a, Im id (h a) (h' (f a))) : ∀ xs : List α, Im id (M.each h xs) (M.each h' (xs.map f))
  | [] => rfl
  | a :: r => Im.bind (k a) fun b => Im.bind (Im.each k r) fun bs => Im.ret rfl
theorem Im.refl : ∀ m : M α, Im id m m
  | .ret _ => rfl
  | .exc _ _ => rfl
  | .roll _ k => ⟨k, rfl, fun i => Im.refl (k i)⟩
  | .any _ k => ⟨k, rfl, fun i => Im.refl (k i)⟩
  | .stuck => trivial
end
/-! ### what stands in the holes -/
variable (ρ : Nat → Val)
mutual
def subV : Val → Val
  | .p d => .p d
  | .fn i => cond (Nat.blt i 1000000) (.fn i) (ρ (i - 1000000))
  | .dice => .dice
  | .mt xs => mkTup (subVs xs)
def subVs : List Val → List Val
  | [] => []
  | x :: r => subV x :: subVs r
end
def subR : Res → Res
  | .v x => .v (subV ρ x)
  | .l b xs => .l b xs
def subSt : Slot → Slot
  | .v x => .v (subV ρ x)
  | .own xs => .own xs
  | .thk => .thk
def subO (o : Option Slot) : Option Slot := o.map (subSt ρ)
def subSl (σ : Sl) : Sl := σ.map (subO ρ)
def subFl : Fl → Fl
  | .nx => .nx
  | .brk => .brk
  | .cont => .cont
  | .ret r => .ret (subR ρ r)
def subF (f : Fl × Sl) : Fl × Sl := (subFl ρ f.1, subSl ρ f.2)
def subI (b : Bool × List Val) : Bool × List Val := (b.1, subVs ρ b.2)
variable {ρ}
theorem subVs_map : ∀ xs : List Val, subVs ρ xs = xs.map (subV ρ)
  | [] => rfl
  | x :: r => by
    show subV ρ x :: subVs ρ r = _
    rw [subVs_map r]
    rfl
theorem dataAll_p : ∀ ds : List PyData, dataAll (ds.map .p) = some ds
  | [] => rfl
  | d :: r => by
    show (dataAll (r.map .p)).map (d :: ·) = _
    rw [dataAll_p r]
    rfl
theorem dataAll_eq : ∀ {xs : List Val} {ds : List PyData}, dataAll xs = some ds → xs = ds.map .p
  | [], ds, e => by
    cases e
    rfl
  | .p d :: r, ds, e => by
    obtain ⟨es, e1, rfl⟩ := Option.map_eq_some_iff.mp (show (dataAll r).map (d :: ·) = some ds from e)
    rw [dataAll_eq e1]
    rfl
  | .fn _ :: _, _, e => by cases e
  | .dice :: _, _, e => by cases e
  | .mt _ :: _, _, e => by cases e
theorem subVs_p : ∀ ds : List PyData, subVs ρ (ds.map .p) = ds.map .p
  | [] => rfl
  | d :: r => by
    show Val.p d :: subVs ρ (r.map .p) = _
    rw [subVs_p r]
    rfl
theorem mkTup_p (ds : List PyData) : mkTup (ds.map .p) = .p (.tuple ds) := by
  unfold mkTup
  rw [dataAll_p]
theorem sub_mkTup (xs : List Val) : subV ρ (mkTup xs) = mkTup (subVs ρ xs) := by
  cases e : dataAll xs with
  | some ds =>
    rw [dataAll_eq e, subVs_p, mkTup_p]
    rfl
  | none =>
    have e2 : mkTup xs = .mt xs := by
      unfold mkTup
      rw [e]
    rw [e2]
    rfl
/-- a tuple is data or holds what is none -/
theorem mkTup_or (xs : List Val) : (∃ ds, xs = ds.map .p ∧ mkTup xs = .p (.tuple ds)) ∨ mkTup xs = .mt xs := by
  unfold mkTup
  cases e : dataAll xs with
  | some ds => exact .inl ⟨ds, dataAll_eq e, rfl⟩
  | none => exact .inr rfl
theorem mkTup_items (xs : List Val) : (Res.v (mkTup xs)).items = some xs := by
  rcases mkTup_or xs with ⟨ds, rfl, e⟩ | e <;> rw [e] <;> rfl
theorem mkTup_truth (xs : List Val) : (Res.v (mkTup xs)).truth = some (!xs.isEmpty) := by
  rcases mkTup_or xs with ⟨ds, rfl, e⟩ | e <;> rw [e]
  · cases ds <;> rfl
  · rfl
theorem mkTup_isTy (xs : List Val) (t : Ty) : isTy t (mkTup xs) = some (t == .tup) := by
  rcases mkTup_or xs with ⟨ds, rfl, e⟩ | e <;> rw [e] <;> cases t <;> rfl
theorem mkTup_isN (xs : List Val) : isN (.v (mkTup xs)) = some false := by
  rcases mkTup_or xs with ⟨ds, rfl, e⟩ | e <;> rw [e] <;> rfl
theorem sub_app (xs ys : List Val) : subVs ρ (xs ++ ys) = subVs ρ xs ++ subVs ρ ys := by
  rw [subVs_map, subVs_map, subVs_map, List.map_append]
theorem sub_len (xs : List Val) : (subVs ρ xs).length = xs.length := by rw [subVs_map, List.length_map]
theorem sub_data {x : Val} {d : PyData} (e : x.data = some d) : (subV ρ x).data = some d := by
  cases x <;> cases e
  rfl
theorem sub_dataAll {xs : List Val} {ds : List PyData} (e : dataAll xs = some ds) : dataAll (subVs ρ xs) = some ds := by
  rw [dataAll_eq e, subVs_p, dataAll_p]
/-! what is looked at has no holes -/
theorem cl_int {r : Res} {i : Int} (e : r.int = some i) : subR ρ r = r := by
  unfold Res.int at e
  split at e
  · rfl
  · cases e
theorem cl_bool {r : Res} {i : Bool} (e : r.bool = some i) : subR ρ r = r := by
  unfold Res.bool at e
  split at e
  · rfl
  · cases e
theorem cl_data {r : Res} {d : PyData} (e : r.data = some d) : subR ρ r = r := by
  unfold Res.data at e
  split at e
  · rfl
  · rfl
  · cases e
theorem cl_list {r : Res} {d : List PyData} (e : r.list = some d) : subR ρ r = r := by
  unfold Res.list at e
  split at e
  · rfl
  · rfl
  · cases e
theorem cl_seq {r : Res} {d : List PyData} (e : r.seq = some d) : subR ρ r = r := by
  unfold Res.seq at e
  split at e
  · rfl
  · rfl
  · rfl
  · cases e
theorem sub_toVal {r : Res} {x : Val} (e : r.toVal = some x) : (subR ρ r).toVal = some (subV ρ x) := by
  unfold Res.toVal at e
  split at e <;> cases e <;> rfl
theorem sub_items {r : Res} {xs : List Val} (e : r.items = some xs) : (subR ρ r).items = some (subVs ρ xs) := by
  unfold Res.items at e
  split at e
  · cases e
    rw [subVs_p]
    rfl
  · cases e
    rw [subVs_p]
    rfl
  · cases e
    exact mkTup_items _
  · cases e
    rw [subVs_p]
    rfl
  · cases e
theorem sub_truth {r : Res} {b : Bool} (e : r.truth = some b) : (subR ρ r).truth = some b := by
  unfold Res.truth at e
  split at e <;> first
    | exact e
    | (cases e; show (Res.v (mkTup _)).truth = _; rw [mkTup_truth]; rename_i xs; cases xs <;> rfl)
    | cases e
theorem sub_mine (r : Res) : (subR ρ r).mine = r.mine := by
  cases r with
  | v x => rfl
  | l b xs => rfl
theorem sub_slot {r : Res} {s : Slot} (e : r.slot = some s) : (subR ρ r).slot = some (subSt ρ s) := by
  unfold Res.slot at e
  split at e <;> cases e <;> rfl
theorem sub_isN {r : Res} {b : Bool} (e : isN r = some b) : isN (subR ρ r) = some b := by
  cases r with
  | l _ _ => exact e
  | v x =>
    cases x with
    | p d => exact e
    | fn i => cases e
    | dice => exact e
    | mt xs =>
      cases e
      exact mkTup_isN _
theorem sub_isTy {t : Ty} {r : Res} {b : Bool} (e : r.isTy t = some b) : (subR ρ r).isTy t = some b := by
  cases r with
  | l _ _ => exact e
  | v x =>
    cases x with
    | p d => exact e
    | fn i => cases t <;> cases e
    | dice => cases t <;> cases e
    | mt xs =>
      show isTy t (mkTup _) = _
      rw [mkTup_isTy, ← e]
      cases t <;> rfl
theorem sub_up (r : Res) : (subR ρ r).up = subR ρ r.up := by cases r <;> rfl
/-! operations -/
theorem im_id {m : M Res} (h : Im (subR ρ) m m) {m' : M Res} (e : m = m') : Im (subR ρ) m m' := e ▸ h
theorem im_intOp (o : Bop) (i j : Int) : Im (subR ρ) ((intOp o i j).bind fun k => .ret (rI k)) ((intOp o i j).bind fun k => .ret (rI k)) := Im.bind (Im.refl _) fun _ => Im.ret rfl
theorem im_seqOp (o : Bop) (a b : Res) : Im (subR ρ) (seqOp o a b) (seqOp o (subR ρ a) (subR ρ b)) := by
  unfold seqOp
  split
  · exact Im.guard rfl rfl
  · exact Im.guard rfl rfl
  · rename_i xs ys
    show Im _ _ (seqOp .add (.v (mkTup (subVs ρ xs))) (.v (mkTup (subVs ρ ys))))
    rcases mkTup_or (subVs ρ xs) with ⟨ds, e1, e⟩ | e <;> rcases mkTup_or (subVs ρ ys) with ⟨es, e3, e2⟩ | e2 <;> rw [e, e2]
    · refine Im.guard (by rw [← sub_len (ρ := ρ) xs, ← sub_len (ρ := ρ) ys, e1, e3, List.length_map, List.length_map]) ?_
      refine Im.ret ?_
      show _ = Res.v (subV ρ (mkTup (xs ++ ys)))
      rw [sub_mkTup, sub_app, e1, e3, ← List.map_append, mkTup_p]
    · refine Im.guard (by rw [← sub_len (ρ := ρ) xs, ← sub_len (ρ := ρ) ys, e1, List.length_map]) ?_
      refine Im.ret ?_
      show _ = Res.v (subV ρ (mkTup (xs ++ ys)))
      rw [sub_mkTup, sub_app, e1]
    · refine Im.guard (by rw [← sub_len (ρ := ρ) xs, ← sub_len (ρ := ρ) ys, e3, List.length_map]) ?_
      refine Im.ret ?_
      show _ = Res.v (subV ρ (mkTup (xs ++ ys)))
      rw [sub_mkTup, sub_app, e3]
    · refine Im.guard (by rw [← sub_len (ρ := ρ) xs, ← sub_len (ρ := ρ) ys]) ?_
      refine Im.ret ?_
      show _ = Res.v (subV ρ (mkTup (xs ++ ys)))
      rw [sub_mkTup, sub_app]
  · rename_i xs ys
    show Im _ _ (seqOp .add (.v (.p (.tuple xs))) (.v (mkTup (subVs ρ ys))))
    rcases mkTup_or (subVs ρ ys) with ⟨es, e3, e2⟩ | e2 <;> rw [e2]
    · refine Im.guard (by rw [← sub_len (ρ := ρ) ys, e3, List.length_map]) ?_
      refine Im.ret ?_
      show _ = Res.v (subV ρ (mkTup (xs.map .p ++ ys)))
      rw [sub_mkTup, sub_app, e3, subVs_p, ← List.map_append, mkTup_p]
    · refine Im.guard (by rw [← sub_len (ρ := ρ) ys]) ?_
      refine Im.ret ?_
      show _ = Res.v (subV ρ (mkTup (xs.map .p ++ ys)))
      rw [sub_mkTup, sub_app, subVs_p]
  · rename_i xs ys
    show Im _ _ (seqOp .add (.v (mkTup (subVs ρ xs))) (.v (.p (.tuple ys))))
    rcases mkTup_or (subVs ρ xs) with ⟨es, e3, e2⟩ | e2 <;> rw [e2]
    · refine Im.guard (by rw [← sub_len (ρ := ρ) xs, e3, List.length_map]) ?_
      refine Im.ret ?_
      show _ = Res.v (subV ρ (mkTup (xs ++ ys.map .p)))
      rw [sub_mkTup, sub_app, e3, subVs_p, ← List.map_append, mkTup_p]
    · refine Im.guard (by rw [← sub_len (ρ := ρ) xs]) ?_
      refine Im.ret ?_
      show _ = Res.v (subV ρ (mkTup (xs ++ ys.map .p)))
      rw [sub_mkTup, sub_app, subVs_p]
  · exact Im.guard rfl rfl
  · exact Im.guard rfl rfl
  · exact Im.guard rfl rfl
  · exact trivial
theorem im_binR (o : Bop) (a b : Res) : Im (subR ρ) (binR o a b) (binR o (subR ρ a) (subR ρ b)) := by
  cases e1 : a.int with
  | some i =>
    cases e2 : b.int with
    | some j =>
      rw [cl_int e1, cl_int e2]
      unfold binR
      rw [e1, e2]
      exact im_intOp o i j
    | none =>
      obtain rfl : a = rI i := by
        unfold Res.int at e1
        split at e1 <;> cases e1
        rfl
      have e : binR o (rI i) b = .stuck := by
        unfold binR
        rw [e1, e2]
        show seqOp o (rI i) b = .stuck
        unfold seqOp
        split <;> first | rfl | (rename_i h; cases h) | (rename_i h _; cases h)
      rw [e]
      exact trivial
  | none =>
    have e : binR o a b = seqOp o a b := by
      unfold binR
      rw [e1]
    rw [e]
    cases e2 : (subR ρ a).int with
    | none =>
      have e : binR o (subR ρ a) (subR ρ b) = seqOp o (subR ρ a) (subR ρ b) := by
        unfold binR
        rw [e2]
      rw [e]
      exact im_seqOp o a b
    | some i =>
      have hs : subR ρ a = rI i := by
        unfold Res.int at e2
        split at e2 <;> cases e2
        assumption
      have h : seqOp o a b = .stuck := by
        cases a with
        | l _ _ => cases hs
        | v x =>
          cases x with
          | p d =>
            cases hs
            cases e1
          | fn j =>
            unfold seqOp
            split <;> first | rfl | (rename_i h; cases h) | (rename_i h _; cases h)
          | dice => cases hs
          | mt xs =>
            have hs : Res.v (mkTup (subVs ρ xs)) = rI i := hs
            rcases mkTup_or (subVs ρ xs) with ⟨_, _, e⟩ | e <;> rw [e] at hs <;> cases hs
      rw [h]
      exact trivial
theorem im_cmpR (o : Cop) (a b : Res) : Im id (cmpR o a b) (cmpR o (subR ρ a) (subR ρ b)) := by
  cases e1 : a.int with
  | some i =>
    rw [cl_int e1]
    cases e2 : b.int with
    | some j =>
      rw [cl_int e2]
      exact Im.refl _
    | none =>
      cases e3 : b.data with
      | some d =>
        rw [cl_data e3]
        exact Im.refl _
      | none =>
        have e : cmpR o a b = .stuck := by
          unfold cmpR
          rw [e1, e2, e3]
          cases a.data <;> rfl
        rw [e]
        exact trivial
  | none =>
    cases e2 : a.data with
    | none =>
      have e : cmpR o a b = .stuck := by
        unfold cmpR
        rw [e1, e2]
      rw [e]
      exact trivial
    | some d =>
      rw [cl_data e2]
      cases e3 : b.data with
      | some d =>
        rw [cl_data e3]
        exact Im.refl _
      | none =>
        have e : cmpR o a b = .stuck := by
          unfold cmpR
          rw [e1, e2, e3]
        rw [e]
        exact trivial
theorem atI_sub {xs : List Val} {i : Int} {x : Val} (e : L2.atI xs i = some x) : L2.atI (subVs ρ xs) i = some (subV ρ x) := by
  rw [subVs_map]
  unfold L2.atI at e ⊢
  rw [List.length_map]
  simp only [List.getElem?_map]
  obtain ⟨j, e1, e2⟩ := Option.bind_eq_some_iff.mp e
  rw [e1]
  show Option.map (subV ρ) xs[j]? = _
  rw [e2]
  rfl
theorem im_idxR (a b : Res) : Im (subR ρ) (idxR a b) (idxR (subR ρ a) (subR ρ b)) := by
  cases e1 : a.items with
  | none =>
    have e : idxR a b = .stuck := by
      unfold idxR
      rw [e1]
    rw [e]
    exact trivial
  | some xs =>
    cases e2 : b.int with
    | none =>
      have e : idxR a b = .stuck := by
        unfold idxR
        rw [e1, e2]
      rw [e]
      exact trivial
    | some i =>
      rw [cl_int e2]
      unfold idxR
      rw [e1, e2, sub_items e1]
      exact Im.bind (Im.ofOpt fun x e => atI_sub e) fun x => Im.ret rfl
theorem im_slcR (a : Res) (lo hi : Option Int) : Im (subR ρ) (slcR a lo hi) (slcR (subR ρ a) lo hi) := by
  unfold slcR
  split
  · rfl
  · rfl
  · rfl
  · exact trivial
theorem ptsV_p : ∀ {xs : List Val} {ps : List (Int × Int)}, ptsV xs = some ps → subVs ρ xs = xs
  | [], _, _ => rfl
  | x :: r, ps, e => by
    obtain ⟨p, e1, e⟩ := Option.bind_eq_some_iff.mp (show (ptV x).bind _ = some ps from e)
    obtain ⟨qs, e2, _⟩ := Option.map_eq_some_iff.mp e
    show subV ρ x :: subVs ρ r = _
    rw [ptsV_p e2]
    unfold ptV at e1
    split at e1
    · rfl
    · cases e1
/-- where the outcome of what has no holes has none -/
def Clo (ρ : Nat → Val) (m : M Res) : Prop := Im (subR ρ) m m
theorem Clo.guard {b : Bool} {m : M Res} (h : Clo ρ m) : Clo ρ (.guard b m) := Im.guard rfl h
theorem Clo.ofOpt {α : Type} {o : Option α} {f : α → M Res} (h : ∀ a, Clo ρ (f a)) : Clo ρ ((M.ofOpt o).bind f) := Im.bind (Im.refl _) h
theorem cl_endR (b : Bool) : ∀ l, Clo ρ (endR b l)
  | [] => trivial
  | _ :: _ => rfl
theorem cl_sortKR (b : Bool) (r : Res) : Clo ρ (sortKR b r) := Clo.ofOpt fun _ => Clo.guard rfl
theorem cl_sortLR (r : Res) : Clo ρ (sortLR r) := Clo.ofOpt fun _ => Clo.guard rfl
theorem cl_lzipR (a b : Res) : Clo ρ (lzipR a b) := by
  unfold lzipR
  split
  · rfl
  · exact trivial
theorem cl_twoD (m : Bool) (a b : Res) : Clo ρ (twoD m a b) := by
  unfold twoD
  split
  · exact Clo.guard rfl
  · exact trivial
theorem cl_blt (b : Blt) (xs : List Res) : Clo ρ (blt b xs) := by
  unfold blt
  split
  · exact Clo.guard rfl
  · exact Clo.ofOpt fun _ => rfl
  · exact Clo.ofOpt fun _ => rfl
  · split
    · rfl
    · exact cl_twoD _ _ _
  · split
    · rfl
    · exact cl_twoD _ _ _
  · rfl
  · rfl
  · exact Clo.ofOpt fun _ => rfl
  · exact Clo.ofOpt fun _ => rfl
  · exact Clo.ofOpt fun _ => rfl
  · exact Clo.ofOpt fun _ => rfl
  · exact Clo.ofOpt fun _ => rfl
  · exact Clo.ofOpt fun _ => Clo.guard rfl
  · rfl
  · exact Clo.ofOpt fun _ => rfl
  · exact Clo.ofOpt fun _ => cl_endR _ _
  · exact Clo.ofOpt fun _ => cl_endR _ _
  · exact cl_sortLR _
  · exact cl_sortKR _ _
  · exact cl_lzipR _ _
  · exact Clo.ofOpt fun _ => rfl
  · exact trivial
/-- without holes, or what nearly nothing can be done with -/
inductive Kd (ρ : Nat → Val) : Res → Prop
  | cl {r : Res} (h : subR ρ r = r) : Kd ρ r
  | fn (i : Nat) : Kd ρ (.v (.fn i))
  | mt (xs : List Val) : Kd ρ (.v (.mt xs))
theorem kd : ∀ r : Res, Kd ρ r
  | .l _ _ => .cl rfl
  | .v (.p _) => .cl rfl
  | .v (.fn i) => .fn i
  | .v .dice => .cl rfl
  | .v (.mt xs) => .mt xs
theorem blt_len (xs : List Val) : blt .len [.v (mkTup xs)] = .ret (rI xs.length) := by
  rcases mkTup_or xs with ⟨ds, rfl, e⟩ | e <;> rw [e] <;> rfl
theorem twoD_fn (m : Bool) (i : Nat) (c : Res) : twoD m (.v (.fn i)) c = .stuck := by
  unfold twoD
  split
  · rename_i h
    cases h
  · rfl
theorem twoD_mt (m : Bool) (i : List Val) (c : Res) : twoD m (.v (.mt i)) c = .stuck := by
  unfold twoD
  split
  · rename_i h
    cases h
  · rfl
theorem twoD_fn2 (m : Bool) (i : Nat) (c : Res) : twoD m c (.v (.fn i)) = .stuck := by
  unfold twoD
  split
  · rename_i h
    cases h
  · rfl
theorem twoD_mt2 (m : Bool) (i : List Val) (c : Res) : twoD m c (.v (.mt i)) = .stuck := by
  unfold twoD
  split
  · rename_i h
    cases h
  · rfl
theorem blt2_fn (b : Blt) (i : Nat) (c : Res) : blt b [.v (.fn i), c] = .stuck := by
  cases b <;> first | rfl | exact twoD_fn _ _ _
theorem blt2_mt (b : Blt) (i : List Val) (c : Res) : blt b [.v (.mt i), c] = .stuck := by
  cases b <;> first | rfl | exact twoD_mt _ _ _
theorem blt2_fn2 (b : Blt) (i : Nat) (c : Res) : blt b [c, .v (.fn i)] = .stuck := by
  cases b <;> first
    | rfl
    | (show (match c.int, (none : Option Int) with | some i, some j => _ | _, _ => twoD _ c _) = _; cases c.int <;> exact twoD_fn2 _ _ _)
    | (show lzipR c _ = _; unfold lzipR; split <;> first | rfl | (rename_i h; cases h))
    | (cases c with
      | l _ _ => rfl
      | v x =>
        cases x with
        | p d => cases d <;> rfl
        | _ => rfl)
theorem blt2_mt2 (b : Blt) (i : List Val) (c : Res) : blt b [c, .v (.mt i)] = .stuck := by
  cases b <;> first
    | rfl
    | (show (match c.int, (none : Option Int) with | some i, some j => _ | _, _ => twoD _ c _) = _; cases c.int <;> exact twoD_mt2 _ _ _)
    | (show lzipR c _ = _; unfold lzipR; split <;> first | rfl | (rename_i h; cases h))
    | (cases c with
      | l _ _ => rfl
      | v x =>
        cases x with
        | p d => cases d <;> rfl
        | _ => rfl)
theorem im_blt (b : Blt) (xs : List Res) : Im (subR ρ) (blt b xs) (blt b (xs.map (subR ρ))) := by
  match xs with
  | [] => exact cl_blt b []
  | [a] =>
    show Im _ _ (blt b [subR ρ a])
    cases @kd ρ a with
    | cl h =>
      rw [h]
      exact cl_blt b [a]
    | fn i =>
      have e : blt b [.v (.fn i)] = .stuck := by cases b <;> first | rfl | (rename_i t; cases t <;> rfl)
      rw [e]
      exact trivial
    | mt ys =>
      show Im _ _ (blt b [.v (mkTup (subVs ρ ys))])
      cases b with
      | len =>
        rw [blt_len]
        show M.ret (rI (subVs ρ ys).length) = .ret (rI ys.length)
        rw [sub_len]
      | isi t =>
        have e : blt (.isi t) [.v (mkTup (subVs ρ ys))] = .ret (rB (t == .tup)) := by
          show M.bind (M.ofOpt (isTy t (mkTup (subVs ρ ys)))) _ = _
          rw [mkTup_isTy]
          rfl
        rw [e]
        cases t <;> rfl
      | srtK =>
        cases e : ptsV ys with
        | none =>
          have e2 : blt .srtK [.v (.mt ys)] = .stuck := by
            show (M.ofOpt (ptsV ys)).bind _ = _
            rw [e]
            rfl
          rw [e2]
          exact trivial
        | some ps =>
          rw [ptsV_p e]
          have e2 : blt .srtK [.v (mkTup ys)] = blt .srtK [.v (.mt ys)] := by
            show (M.ofOpt ((Res.v (mkTup ys)).items.bind ptsV)).bind _ = _
            rw [mkTup_items]
            rfl
          rw [e2]
          exact cl_blt _ _
      | _ => exact trivial
  | [a, c] =>
    show Im _ _ (blt b [subR ρ a, subR ρ c])
    cases @kd ρ a with
    | fn i =>
      rw [blt2_fn]
      exact trivial
    | mt i =>
      rw [blt2_mt]
      exact trivial
    | cl h =>
      cases @kd ρ c with
      | fn i =>
        rw [blt2_fn2]
        exact trivial
      | mt i =>
        rw [blt2_mt2]
        exact trivial
      | cl h2 =>
        rw [h, h2]
        exact cl_blt _ _
  | a :: c :: d :: r =>
    have e : blt b (a :: c :: d :: r) = .stuck := by
      cases b <;> first
        | rfl
        | (cases a with
          | l _ _ => rfl
          | v x =>
            cases x with
            | p d => cases d <;> rfl
            | _ => rfl)
    rw [e]
    exact trivial
end Rf

set_option Elab.async false
set_option linter.all false
set_option maxRecDepth 100000
set_option maxHeartbeats 4000000
/-! R38: the evaluator, with holes. -/
namespace Rf
open PySem
variable {ρ : Nat → Val}
structure CIm (ρ : Nat → Val) (C C' : Ctx) : Prop where
  cst : C.cst = C'.cst
  sub : C.sub = C'.sub
  fuel : C.fuel = C'.fuel
  call : ∀ f xs, Im (subR ρ) (C.call f xs) (C'.call f (subVs ρ xs))
  callT : ∀ f m m', Im (subR ρ) m m' → Im (subR ρ) (C.callT f m) (C'.callT f m')
  thk : Im (subR ρ) C.thk C'.thk
  err : Im (subR ρ) C.err C'.err
  wrap : ∀ b F F', (∀ σ, Im (subR ρ) (F σ) (F' (subSl ρ σ))) → ∀ σ, Im (subR ρ) (C.wrap b F σ) (C'.wrap b F' (subSl ρ σ))
theorem subSl_get (σ : Sl) (i : Nat) : (subSl ρ σ)[i]? = σ[i]?.map (subO ρ) := by
  unfold subSl
  exact List.getElem?_map ..
theorem subSl_set (σ : Sl) (i : Nat) (s : Option Slot) : subSl ρ (σ.set i s) = (subSl ρ σ).set i (subO ρ s) := by
  unfold subSl
  exact List.map_set ..
theorem im_varR (σ : Sl) (i : Nat) : Im (subR ρ) (varR σ i) (varR (subSl ρ σ) i) := by
  unfold varR
  rw [subSl_get]
  cases σ[i]? with
  | none => exact trivial
  | some o =>
    cases o with
    | none => exact trivial
    | some s =>
      cases s with
      | v x => exact rfl
      | own xs => exact rfl
      | thk => exact trivial
theorem im_fnAt (σ : Sl) (i : Nat) : Im id (fnAt σ i) (fnAt (subSl ρ σ) i) := by
  unfold fnAt
  rw [subSl_get]
  cases σ[i]? with
  | none => exact trivial
  | some o =>
    cases o with
    | none => exact trivial
    | some s =>
      cases s with
      | own xs => exact trivial
      | thk => exact trivial
      | v x =>
        cases x with
        | p d => exact trivial
        | dice => exact trivial
        | mt xs => exact trivial
        | fn f =>
          cases e : Nat.blt f 1000000 with
          | false =>
            show Im id (M.guard (Nat.blt f 1000000) _) _
            rw [e]
            exact trivial
          | true =>
            have e2 : subV ρ (.fn f) = .fn f := by
              unfold subV
              rw [e]
              rfl
            show Im id (M.guard (Nat.blt f 1000000) _) (match some (some (Slot.v (subV ρ (.fn f)))) with | some (some (.v (.fn f))) => _ | _ => _)
            rw [e2]
            exact Im.guard rfl rfl
theorem im_thkAt {m m' : M Res} (h : Im (subR ρ) m m') (i : Nat) (σ : Sl) : Im (subR ρ) (thkAt m i σ) (thkAt m' i (subSl ρ σ)) := by
  unfold thkAt
  rw [subSl_get]
  cases σ[i]? with
  | none => exact trivial
  | some o =>
    cases o with
    | none => exact trivial
    | some s =>
      cases s with
      | v x => exact trivial
      | own xs => exact trivial
      | thk => exact h
theorem im_dgetM (σ : Sl) (i j : Nat) : Im (subR ρ) (dgetM σ i j) (dgetM (subSl ρ σ) i j) := by
  unfold dgetM
  rw [subSl_get]
  cases σ[i]? with
  | none => exact trivial
  | some o =>
    cases o with
    | none => exact trivial
    | some s =>
      cases s with
      | own xs => exact trivial
      | thk => exact trivial
      | v x =>
        cases x with
        | p d => exact trivial
        | fn f => exact trivial
        | mt xs => exact trivial
        | dice => exact Im.guard rfl ⟨_, rfl, fun i => rfl⟩
theorem sub_setSlots : ∀ {is : List Nat} {xs : List Val} {σ τ : Sl}, setSlots is xs σ = some τ → setSlots is (subVs ρ xs) (subSl ρ σ) = some (subSl ρ τ)
  | [], [], σ, τ, e => by
    cases e
    rfl
  | i :: is, x :: xs, σ, τ, e => by
    show setSlots is (subVs ρ xs) ((subSl ρ σ).set i (some (.v (subV ρ x)))) = _
    have h := sub_setSlots (is := is) (xs := xs) e
    rw [subSl_set] at h
    exact h
  | [], _ :: _, _, _, e => by cases e
  | _ :: _, [], _, _, e => by cases e
theorem sub_put {g : G} {x : Val} {σ τ : Sl} (e : g.put x σ = some τ) : g.put (subV ρ x) (subSl ρ σ) = some (subSl ρ τ) := by
  cases g with
  | name i =>
    cases e
    show some ((subSl ρ σ).set i (some (.v (subV ρ x)))) = _
    rw [subSl_set]
    rfl
  | names is =>
    cases x with
    | p d =>
      cases d with
      | tuple xs =>
        have h := sub_setSlots (ρ := ρ) (show setSlots is (xs.map .p) σ = some τ from e)
        rw [subVs_p] at h
        exact h
      | list xs =>
        have h := sub_setSlots (ρ := ρ) (show setSlots is (xs.map .p) σ = some τ from e)
        rw [subVs_p] at h
        exact h
      | none => cases e
      | bool _ => cases e
      | int _ => cases e
      | str _ => cases e
      | dict _ => cases e
    | fn i => cases e
    | dice => cases e
    | mt xs =>
      have h := sub_setSlots (ρ := ρ) (show setSlots is xs σ = some τ from e)
      show (G.names is).put (mkTup (subVs ρ xs)) (subSl ρ σ) = _
      rcases mkTup_or (subVs ρ xs) with ⟨ds, e1, e2⟩ | e2
      · rw [e2]
        rw [e1] at h
        exact h
      · rw [e2]
        exact h
  | nest ts =>
    cases x with
    | p d =>
      cases d with
      | tuple xs =>
        obtain ⟨ys, e1, e2⟩ := Option.bind_eq_some_iff.mp (show (flatT ts xs).bind _ = some τ from e)
        have h := sub_setSlots (ρ := ρ) e2
        rw [subVs_p] at h
        show (flatT ts xs).bind _ = _
        rw [e1]
        exact h
      | list _ => cases e
      | none => cases e
      | bool _ => cases e
      | int _ => cases e
      | str _ => cases e
      | dict _ => cases e
    | fn i => cases e
    | dice => cases e
    | mt xs => cases e
theorem sub_rangeL (lo : Int) (n : Nat) : subVs ρ (rangeL lo n) = rangeL lo n := by
  rw [subVs_map]
  unfold rangeL
  rw [List.map_map]
  rfl
theorem sub_downL (lo : Int) (n : Nat) : subVs ρ (downL lo n) = downL lo n := by
  rw [subVs_map]
  unfold downL
  rw [List.map_map]
  rfl
theorem sub_tupD {r : Res} {xs : List PyData} (e : r.tupD = some xs) : (subR ρ r).tupD = some xs := by
  unfold Res.tupD at e
  split at e
  · exact e
  · cases e
theorem sub_pairsL : ∀ (as bs : List Val), subVs ρ (pairsL as bs) = pairsL (subVs ρ as) (subVs ρ bs)
  | a :: as, b :: bs => by
    show subV ρ (mkTup [a, b]) :: subVs ρ (pairsL as bs) = mkTup [subV ρ a, subV ρ b] :: pairsL (subVs ρ as) (subVs ρ bs)
    rw [sub_mkTup, sub_pairsL as bs]
    rfl
  | [], _ => rfl
  | _ :: _, [] => rfl
theorem im_zipR (a b : Res) : Im (subI ρ) (zipR a b) (zipR (subR ρ a) (subR ρ b)) := by
  unfold zipR
  split
  · refine Im.ret ?_
    show _ = (false, subVs ρ _)
    rw [sub_pairsL, subVs_p, subVs_p]
  · refine Im.ret ?_
    show _ = (false, subVs ρ _)
    rw [sub_pairsL, subVs_p, subVs_p]
  · exact trivial
theorem im_truthM (r : Res) : Im id (truthM r) (truthM (subR ρ r)) := Im.ofOpt fun _ e => sub_truth e
theorem im_isNM (neg : Bool) (r : Res) : Im id (isNM neg r) (isNM neg (subR ρ r)) := Im.bind (Im.ofOpt (f := id) fun _ e => sub_isN e) fun _ => Im.ret rfl
theorem sub_int {r : Res} {i : Int} (e : r.int = some i) : (subR ρ r).int = some i := by rw [cl_int e, e]
theorem sub_bool {r : Res} {i : Bool} (e : r.bool = some i) : (subR ρ r).bool = some i := by rw [cl_bool e, e]
theorem sub_list {r : Res} {i : List PyData} (e : r.list = some i) : (subR ρ r).list = some i := by rw [cl_list e, e]
theorem sub_seq {r : Res} {i : List PyData} (e : r.seq = some i) : (subR ρ r).seq = some i := by rw [cl_seq e, e]
theorem sub_tvd {r : Res} {d : PyData} (e : r.toVal.bind Val.data = some d) : (subR ρ r).toVal.bind Val.data = some d := by
  obtain ⟨x, e1, e2⟩ := Option.bind_eq_some_iff.mp e
  rw [sub_toVal e1]
  exact sub_data e2
theorem im_int (r : Res) : Im id (M.ofOpt r.int) (M.ofOpt (subR ρ r).int) := Im.ofOpt fun _ e => sub_int e
theorem im_bool (r : Res) : Im id (M.ofOpt r.bool) (M.ofOpt (subR ρ r).bool) := Im.ofOpt fun _ e => sub_bool e
theorem im_truth (r : Res) : Im id (M.ofOpt r.truth) (M.ofOpt (subR ρ r).truth) := Im.ofOpt fun _ e => sub_truth e
theorem im_toVal (r : Res) : Im (subV ρ) (M.ofOpt r.toVal) (M.ofOpt (subR ρ r).toVal) := Im.ofOpt fun _ e => sub_toVal e
theorem im_items (r : Res) : Im (subVs ρ) (M.ofOpt r.items) (M.ofOpt (subR ρ r).items) := Im.ofOpt fun _ e => sub_items e
section
variable {C C' : Ctx}
mutual
theorem imE (c : CIm ρ C C') : ∀ (e : E) (σ : Sl), Im (subR ρ) (evE C e σ) (evE C' e (subSl ρ σ))
  | .var i, σ => im_varR σ i
  | .lit d, _ => Im.ret rfl
  | .cst k, _ => by
    show Im _ (M.ret (Res.v (.p (C.cst k)))) (M.ret (Res.v (.p (C'.cst k))))
    rw [c.cst]
    exact Im.ret rfl
  | .fnv k, _ => by
    show Im _ (M.guard (Nat.blt k 1000000) (M.ret (Res.v (.fn k)))) (M.guard (Nat.blt k 1000000) (M.ret (Res.v (.fn k))))
    cases e : Nat.blt k 1000000 with
    | false => exact trivial
    | true =>
      refine Im.ret ?_
      show _ = Res.v (subV ρ (.fn k))
      unfold subV
      rw [e]
      rfl
  | .tup es, σ => (imL c es σ).bind fun xs => Im.guard (by rw [sub_len]) (Im.ret (by show _ = Res.v (subV ρ (mkTup xs)); rw [sub_mkTup]))
  | .lst es, σ => (imL c es σ).bind fun xs => Im.guard (by rw [sub_len]) (Im.bind (Im.ofOpt (f := id) fun _ e => sub_dataAll e) fun _ => Im.ret rfl)
  | .bin o a b, σ => (imE c a σ).bind fun x => (imE c b σ).bind fun y => im_binR o x y
  | .neg a, σ => (imE c a σ).bind fun x => (im_int x).bind fun _ => Im.ret rfl
  | .not a, σ => (imE c a σ).bind fun x => (im_truth x).bind fun _ => Im.ret rfl
  | .and a b, σ => (imE c a σ).bind fun x => (im_bool x).bind fun _ => .cond (imE c b σ) (Im.ret rfl)
  | .or a b, σ => (imE c a σ).bind fun x => (im_bool x).bind fun _ => .cond (Im.ret rfl) (imE c b σ)
  | .cmp o a b, σ => (imE c a σ).bind fun x => (imE c b σ).bind fun y => (im_cmpR o x y).bind fun _ => Im.ret rfl
  | .cmp2 o o' a b z, σ => (imE c a σ).bind fun x => (imE c b σ).bind fun y => (im_cmpR o x y).bind fun _ => .cond ((imE c z σ).bind fun z => (im_cmpR o' y z).bind fun _ => Im.ret rfl) (Im.ret rfl)
  | .isn neg a, σ => (imE c a σ).bind fun x => (im_isNM neg x).bind fun _ => Im.ret rfl
  | .ife z a b, σ => (imT c z σ).bind fun _ => .cond (imE c a σ) (imE c b σ)
  | .call f es, σ => (imL c es σ).bind fun _ => c.call _ _
  | .callv i es, σ => (im_fnAt σ i).bind fun _ => (imL c es σ).bind fun _ => c.call _ _
  | .thunk f b, σ => c.wrap _ _ _ (fun σ => c.callT _ _ _ ((imE c b σ).bind fun r => Im.guard (by rw [sub_mine]) (Im.ret rfl))) σ
  | .callT i, σ => im_thkAt c.thk _ _
  | .err i, σ => im_thkAt c.err _ _
  | .dget i j, σ => im_dgetM σ i j
  | .lrng1 a, σ => (imE c a σ).bind fun x => (im_int x).bind fun _ => Im.guard rfl (Im.ret rfl)
  | .lrng2 a b, σ => (imE c a σ).bind fun x => (imE c b σ).bind fun y => (im_int x).bind fun _ => (im_int y).bind fun _ => Im.guard rfl (Im.ret rfl)
  | .bad, _ => trivial
  | .blt b es, σ => (imR c es σ).bind fun xs => im_blt b xs
  | .idx a b, σ => (imE c a σ).bind fun x => (imE c b σ).bind fun y => im_idxR x y
  | .slc a lo hi, σ => (imE c a σ).bind fun x => (imO c lo σ).bind fun l => (imO c hi σ).bind fun h => im_slcR x l h
  | .lc e g it z, σ => (imI c it σ).bind fun bx => Im.guard (by show _ = decide ((subVs ρ bx.2).length < _); rw [sub_len]) (Im.bind (Im.calm (by
      show Im id _ (M.each _ (subVs ρ bx.2))
      rw [subVs_map]
      refine Im.each ?_ _
      intro x
      refine Im.bind (Im.ofOpt fun _ e => sub_put e) ?_
      intro σ'
      refine (imC c z σ').bind ?_
      intro k
      exact .cond ((imE c e σ').bind fun r => Im.bind (Im.ofOpt (f := id) fun _ e => sub_tvd e) fun _ => Im.ret rfl) (Im.ret rfl))) fun _ => Im.ret rfl)
theorem imT (c : CIm ρ C C') : ∀ (e : E) (σ : Sl), Im id (evT C e σ) (evT C' e (subSl ρ σ))
  | .not a, σ => (imT c a σ).bind fun _ => Im.ret rfl
  | .and a b, σ => (imT c a σ).bind fun _ => .cond (imT c b σ) (Im.ret rfl)
  | .or a b, σ => (imT c a σ).bind fun _ => .cond (Im.ret rfl) (imT c b σ)
  | .ife _ _ _, _ => trivial
  | .var i, σ => (im_varR σ i).bind fun r => im_truthM r
  | .cmp o a b, σ => (imE c a σ).bind fun x => (imE c b σ).bind fun y => im_cmpR o x y
  | .cmp2 o o' a b z, σ => (imE c a σ).bind fun x => (imE c b σ).bind fun y => (im_cmpR o x y).bind fun _ => .cond ((imE c z σ).bind fun z => im_cmpR o' y z) (Im.ret rfl)
  | .isn neg a, σ => (imE c a σ).bind fun x => im_isNM neg x
  | .call f es, σ => Im.bind ((imL c es σ).bind fun _ => c.call _ _) fun r => im_truthM r
  | .callv i es, σ => Im.bind ((im_fnAt σ i).bind fun _ => (imL c es σ).bind fun _ => c.call _ _) fun r => im_truthM r
  | .blt b es, σ => Im.bind ((imR c es σ).bind fun xs => im_blt b xs) fun r => im_truthM r
  | .idx a b, σ => Im.bind ((imE c a σ).bind fun x => (imE c b σ).bind fun y => im_idxR x y) fun r => im_truthM r
  | .lit _, _ => trivial
  | .cst _, _ => trivial
  | .fnv _, _ => trivial
  | .tup _, _ => trivial
  | .lst _, _ => trivial
  | .bin _ _ _, _ => trivial
  | .neg _, _ => trivial
  | .thunk _ _, _ => trivial
  | .callT _, _ => trivial
  | .err _, _ => trivial
  | .dget _ _, _ => trivial
  | .lrng1 _, _ => trivial
  | .lrng2 _ _, _ => trivial
  | .bad, _ => trivial
  | .slc _ _ _, _ => trivial
  | .lc _ _ _ _, _ => trivial
theorem imL (c : CIm ρ C C') : ∀ (es : EL) (σ : Sl), Im (subVs ρ) (evL C es σ) (evL C' es (subSl ρ σ))
  | .nil, _ => Im.ret rfl
  | .cons e es, σ => (imE c e σ).bind fun r => (im_toVal r).bind fun _ => (imL c es σ).bind fun _ => Im.ret rfl
  | .star e es, σ => (imE c e σ).bind fun r => (im_items r).bind fun ys => (imL c es σ).bind fun xs => Im.ret (by rw [sub_app])
theorem imR (c : CIm ρ C C') : ∀ (es : EL) (σ : Sl), Im (List.map (subR ρ)) (evR C es σ) (evR C' es (subSl ρ σ))
  | .nil, _ => Im.ret rfl
  | .cons e es, σ => (imE c e σ).bind fun _ => (imR c es σ).bind fun _ => Im.ret rfl
  | .star _ _, _ => trivial
theorem imO (c : CIm ρ C C') : ∀ (o : O) (σ : Sl), Im id (evO C o σ) (evO C' o (subSl ρ σ))
  | .none, _ => Im.ret rfl
  | .some e, σ => (imE c e σ).bind fun r => (im_int r).bind fun _ => Im.ret rfl
theorem imC (c : CIm ρ C C') : ∀ (o : O) (σ : Sl), Im id (evC C o σ) (evC C' o (subSl ρ σ))
  | .none, _ => Im.ret rfl
  | .some e, σ => imT c e σ
theorem imI (c : CIm ρ C C') : ∀ (i : I) (σ : Sl), Im (subI ρ) (evI C i σ) (evI C' i (subSl ρ σ))
  | .seq e, σ => (imE c e σ).bind fun r => (im_items r).bind fun xs => Im.ret (by show _ = (r.mine, subVs ρ xs); rw [sub_mine])
  | .rng1 a, σ => (imE c a σ).bind fun r => (im_int r).bind fun j => Im.guard rfl (Im.ret (by show _ = (false, subVs ρ _); rw [sub_rangeL]; rfl))
  | .rng2 a b, σ => (imE c a σ).bind fun r => (imE c b σ).bind fun r' => (im_int r).bind fun i => (im_int r').bind fun j => Im.guard rfl (Im.ret (by show _ = (false, subVs ρ _); rw [sub_rangeL]; rfl))
  | .enum e, σ => (imE c e σ).bind fun r => Im.bind (Im.ofOpt (f := id) fun _ e => sub_list e) fun xs => Im.ret (by show _ = (r.mine, subVs ρ _); rw [sub_mine, sub_pairsL, sub_rangeL, subVs_p]; rfl)
  | .zip a b, σ => (imE c a σ).bind fun r => (imE c b σ).bind fun r' => im_zipR r r'
  | .enumS e k, σ => (imE c e σ).bind fun r => Im.bind (Im.ofOpt (f := id) fun _ e => sub_tupD e) fun xs => Im.ret (by show _ = (false, subVs ρ _); rw [sub_pairsL, sub_rangeL, subVs_p]; rfl)
  | .rng3 a b d, σ => (imE c a σ).bind fun r => (imE c b σ).bind fun r' => (imE c d σ).bind fun r'' => (im_int r).bind fun i => (im_int r').bind fun j => (im_int r'').bind fun k => Im.guard rfl (Im.ret (by show _ = (false, subVs ρ _); rw [sub_downL]; rfl))
end
theorem im_while {c c' : Sl → M Bool} {b b' : Sl → M (Fl × Sl)} (h : ∀ σ, Im id (c σ) (c' (subSl ρ σ))) (k : ∀ σ, Im (subF ρ) (b σ) (b' (subSl ρ σ))) : ∀ (n : Nat) (σ : Sl), Im (subF ρ) (whileF c b n σ) (whileF c' b' n (subSl ρ σ))
  | 0, _ => trivial
  | n + 1, σ => (h σ).bind fun _ => .cond ((k σ).bind fun fs => by
      obtain ⟨f, s⟩ := fs
      cases f with
      | nx => exact im_while h k n _
      | cont => exact im_while h k n _
      | brk => exact Im.ret rfl
      | ret r => exact Im.ret rfl) (Im.ret rfl)
theorem im_for {g : G} {b b' : Sl → M (Fl × Sl)} (k : ∀ σ, Im (subF ρ) (b σ) (b' (subSl ρ σ))) : ∀ (xs : List Val) (σ : Sl), Im (subF ρ) (forF g b xs σ) (forF g b' (subVs ρ xs) (subSl ρ σ))
  | [], _ => Im.ret rfl
  | x :: r, σ => Im.bind (Im.ofOpt fun _ e => sub_put e) fun σ1 => (k σ1).bind fun fs => by
      obtain ⟨f, s⟩ := fs
      cases f with
      | nx => exact im_for k r _
      | cont => exact im_for k r _
      | brk => exact Im.ret rfl
      | ret r => exact Im.ret rfl
theorem sub_plain (s : Option Slot) : Slot.plain (subO ρ s) = subO ρ (Slot.plain s) := by
  cases s with
  | none => rfl
  | some s => cases s <;> rfl
theorem sub_suite (nm : Option Nat) (σ : Sl) : suiteSl nm (subSl ρ σ) = subSl ρ (suiteSl nm σ) := by
  have h : (subSl ρ σ).map Slot.plain = subSl ρ (σ.map Slot.plain) := by
    unfold subSl
    rw [List.map_map, List.map_map]
    exact List.map_congr_left fun s _ => sub_plain s
  cases nm with
  | none => exact h
  | some i =>
    show ((subSl ρ σ).map Slot.plain).set i _ = subSl ρ ((σ.map Slot.plain).set i _)
    rw [h, subSl_set]
    rfl
theorem imH {C C' : Ctx} (c : CIm ρ C C') (x : Nat) (k : Option PyData) : ∀ (h : HL) (σ : Sl), Im (subR ρ) (evH C x k h σ) (evH C' x k h (subSl ρ σ))
  | .nil, _ => rfl
  | .cons h nm e r, σ => by
    show Im _ (cond (C.sub x h) _ _) (cond (C'.sub x h) _ _)
    have es : C.sub x h = C'.sub x h := by rw [c.sub]
    rw [es, sub_suite]
    refine .cond (Im.calm (imE (C := { C with err := kept (x == h && nm.isSome) k }) (C' := { C' with err := kept (x == h && nm.isSome) k }) ⟨c.cst, c.sub, c.fuel, c.call, c.callT, c.thk, ?_, c.wrap⟩ e _)) (imH c x k r σ)
    exact Im.guard rfl (Im.bind (Im.refl _) fun _ => Im.ret rfl)
theorem im_seq {m1 m1' m2 m2' : Sl → M (Fl × Sl)} (h : ∀ σ, Im (subF ρ) (m1 σ) (m1' (subSl ρ σ))) (k : ∀ σ, Im (subF ρ) (m2 σ) (m2' (subSl ρ σ))) (σ : Sl) : Im (subF ρ) (seqM m1 m2 σ) (seqM m1' m2' (subSl ρ σ)) := (h σ).bind fun fs => by
  obtain ⟨f, s⟩ := fs
  cases f with
  | nx => exact k _
  | cont => exact Im.ret rfl
  | brk => exact Im.ret rfl
  | ret r => exact Im.ret rfl
theorem sub_setRes : ∀ {is : List Nat} {xs : List Res} {σ τ : Sl}, setRes is xs σ = some τ → setRes is (xs.map (subR ρ)) (subSl ρ σ) = some (subSl ρ τ)
  | [], [], σ, τ, e => by
    cases e
    rfl
  | i :: is, x :: xs, σ, τ, e => by
    obtain ⟨s, e1, e2⟩ := Option.bind_eq_some_iff.mp (show x.slot.bind _ = some τ from e)
    show (subR ρ x).slot.bind _ = _
    rw [sub_slot e1]
    have h := sub_setRes (is := is) (xs := xs) e2
    rw [subSl_set] at h
    exact h
  | [], _ :: _, _, _, e => by cases e
  | _ :: _, [], _, _, e => by cases e
theorem sub_intAt {σ : Sl} {i : Nat} {a : Int} (e : intAt σ i = some a) : intAt (subSl ρ σ) i = some a := by
  unfold intAt at e ⊢
  rw [subSl_get]
  split at e
  · rename_i b h
    rw [h]
    exact e
  · cases e
theorem ownAt {σ : Sl} {i : Nat} {xs : List PyData} (e : σ[i]? = some (some (.own xs))) : (subSl ρ σ)[i]? = some (some (.own xs)) := by
  rw [subSl_get, e]
  rfl
mutual
theorem imS (c : CIm ρ C C') : ∀ (s : S) (σ : Sl), Im (subF ρ) (evS C s σ) (evS C' s (subSl ρ σ))
  | .set i e, σ => (imE c e σ).bind fun r => Im.bind (Im.ofOpt fun _ e => sub_slot e) fun s => Im.ret (by show _ = (Fl.nx, subSl ρ _); rw [subSl_set]; rfl)
  | .unp is e, σ => (imE c e σ).bind fun r => (im_toVal r).bind fun x => Im.bind (Im.ofOpt fun _ e => sub_put e) fun σ' => Im.ret rfl
  | .par is es, σ => (imR c es σ).bind fun rs => Im.bind (Im.ofOpt fun _ e => sub_setRes e) fun σ' => Im.ret rfl
  | .aug i o e, σ => Im.bind (Im.ofOpt (f := id) fun _ e => sub_intAt e) fun a => (imE c e σ).bind fun y => (im_int y).bind fun b => (Im.refl _).bind fun z => Im.ret (by show _ = (Fl.nx, subSl ρ _); rw [subSl_set]; rfl)
  | .app i e, σ => by
    show Im _ (appM _ _ _) (appM _ _ _)
    cases h : σ[i]? with
    | none =>
      unfold appM
      rw [h]
      exact trivial
    | some o =>
      cases o with
      | none =>
        unfold appM
        rw [h]
        exact trivial
      | some s =>
        cases s with
        | v x =>
          unfold appM
          rw [h]
          exact trivial
        | thk =>
          unfold appM
          rw [h]
          exact trivial
        | own xs =>
          unfold appM
          rw [h, ownAt h]
          exact (imE c e σ).bind fun r => Im.bind (Im.ofOpt (f := id) fun _ e => sub_tvd e) fun d => Im.guard rfl (Im.ret (by show _ = (Fl.nx, subSl ρ _); rw [subSl_set]; rfl))
  | .ext i e, σ => by
    show Im _ (extM _ _ _) (extM _ _ _)
    cases h : σ[i]? with
    | none =>
      unfold extM
      rw [h]
      exact trivial
    | some o =>
      cases o with
      | none =>
        unfold extM
        rw [h]
        exact trivial
      | some s =>
        cases s with
        | v x =>
          unfold extM
          rw [h]
          exact trivial
        | thk =>
          unfold extM
          rw [h]
          exact trivial
        | own xs =>
          unfold extM
          rw [h, ownAt h]
          exact (imE c e σ).bind fun r => Im.bind (Im.ofOpt (f := id) fun _ e => sub_seq e) fun d => Im.guard rfl (Im.ret (by show _ = (Fl.nx, subSl ρ _); rw [subSl_set]; rfl))
  | .unpg ts e, σ => (imE c e σ).bind fun r => (im_toVal r).bind fun x => Im.bind (Im.ofOpt fun _ e => sub_put e) fun σ' => Im.ret rfl
  | .ins i a e, σ => by
    show Im _ (insM _ _ _ _) (insM _ _ _ _)
    cases h : σ[i]? with
    | none =>
      unfold insM
      rw [h]
      exact trivial
    | some o =>
      cases o with
      | none =>
        unfold insM
        rw [h]
        exact trivial
      | some s =>
        cases s with
        | v x =>
          unfold insM
          rw [h]
          exact trivial
        | thk =>
          unfold insM
          rw [h]
          exact trivial
        | own xs =>
          unfold insM
          rw [h, ownAt h]
          exact (imE c a σ).bind fun ra => (imE c e σ).bind fun r => (im_int ra).bind fun k => Im.bind (Im.ofOpt (f := id) fun _ e => sub_tvd e) fun d => Im.guard rfl (Im.ret (by show _ = (Fl.nx, subSl ρ _); rw [subSl_set]; rfl))
  | .pop i, σ => by
    show Im _ (popM _ _) (popM _ _)
    cases h : σ[i]? with
    | none =>
      unfold popM
      rw [h]
      exact trivial
    | some o =>
      cases o with
      | none =>
        unfold popM
        rw [h]
        exact trivial
      | some s =>
        cases s with
        | v x =>
          unfold popM
          rw [h]
          exact trivial
        | thk =>
          unfold popM
          rw [h]
          exact trivial
        | own xs =>
          unfold popM
          rw [h, ownAt h]
          exact Im.guard rfl (Im.ret (by show _ = (Fl.nx, subSl ρ _); rw [subSl_set]; rfl))
  | .dset i j e, σ => (imE c e σ).bind fun r => (im_int r).bind fun k => by
    show Im _ (match σ[i]? with | some (some (.v .dice)) => _ | _ => _) (match (subSl ρ σ)[i]? with | some (some (.v .dice)) => _ | _ => _)
    rw [subSl_get]
    cases σ[i]? with
    | none => exact trivial
    | some o =>
      cases o with
      | none => exact trivial
      | some s =>
        cases s with
        | own xs => exact trivial
        | thk => exact trivial
        | v x =>
          cases x with
          | p d => exact trivial
          | fn f => exact trivial
          | mt xs => exact trivial
          | dice => exact Im.guard rfl (Im.ret rfl)
  | .iff z a b, σ => (imT c z σ).bind fun _ => .cond (imSL c a σ) (imSL c b σ)
  | .whl z b, σ => by
    show Im _ (whileF _ _ C.fuel σ) (whileF _ _ C'.fuel (subSl ρ σ))
    rw [c.fuel]
    exact im_while (fun σ => imT c z σ) (fun σ => imSL c b σ) _ _
  | .for_ g it b, σ => (imI c it σ).bind fun bx => Im.guard rfl (im_for (fun σ => imSL c b σ) _ _)
  | .ret e, σ => (imE c e σ).bind fun _ => Im.ret rfl
  | .retN, σ => Im.ret rfl
  | .expr e, σ => (imE c e σ).bind fun _ => Im.ret rfl
  | .raise0 x, _ => rfl
  | .raise1 x e, σ => (imE c e σ).bind fun r => Im.bind (Im.ofOpt (f := id) fun _ e => sub_tvd e) fun d => rfl
  | .tryc rt e hs, σ => Im.handle (imE c e σ) (fun r => by
      show Im _ (M.ret (cond rt _ _)) (M.ret (cond rt _ _))
      cases rt <;> exact Im.ret rfl) (fun x k => (imH c x k hs σ).bind fun _ => Im.ret rfl)
  | .brk, σ => Im.ret rfl
  | .cont, σ => Im.ret rfl
  | .pass, σ => Im.ret rfl
  | .bad, _ => trivial
theorem imSL (c : CIm ρ C C') : ∀ (b : SL) (σ : Sl), Im (subF ρ) (evSL C b σ) (evSL C' b (subSl ρ σ))
  | .nil, _ => Im.ret rfl
  | .cons s r, σ => im_seq (fun σ => imS c s σ) (fun σ => imSL c r σ) σ
  | .frz i r, σ => by
    show Im _ (frzM _ _ _) (frzM _ _ _)
    rw [frz_one, frz_one]
    have e : frzOne i (subSl ρ σ) = subSl ρ (frzOne i σ) := by
      unfold frzOne
      rw [subSl_get]
      cases h : σ[i]? with
      | none => rfl
      | some o =>
        cases o with
        | none => rfl
        | some s =>
          cases s with
          | own xs =>
            show (subSl ρ σ).set i _ = subSl ρ (σ.set i _)
            rw [subSl_set]
            rfl
          | v x => rfl
          | thk => rfl
    rw [e]
    exact imSL c r _
  | .kill i r, σ => by
    show Im _ (evSL C r (σ.set i none)) (evSL C' r ((subSl ρ σ).set i none))
    have e : (subSl ρ σ).set i none = subSl ρ (σ.set i none) := by
      rw [subSl_set]
      rfl
    rw [e]
    exact imSL c r _
end
end
theorem im_flRes (fs : Fl × Sl) : Im (subR ρ) (flRes fs) (flRes (subF ρ fs)) := by
  obtain ⟨f, s⟩ := fs
  cases f with
  | nx => exact Im.ret rfl
  | brk => exact trivial
  | cont => exact trivial
  | ret r => exact Im.ret (sub_up r)
theorem sub_start (ns : Nat) (xs : List Val) : subSl ρ (startSl ns xs) = startSl ns (subVs ρ xs) := by
  unfold startSl subSl
  rw [List.map_append, List.map_map, subVs_map, List.map_map, List.length_map, List.map_replicate]
  rfl
theorem sub_thk (n : Nat) : subSl ρ (some .thk :: List.replicate n none) = some .thk :: List.replicate n none := by
  unfold subSl
  rw [List.map_cons, List.map_replicate]
  rfl
/-- the same context, with another way for lambdas -/
def Ctx.withW (C : Ctx) (w : E → (Sl → M Res) → Sl → M Res) : Ctx := { C with wrap := w }
theorem ctx_im {V : Wrl} {w : E → (Sl → M Res) → Sl → M Res} {c c' : Nat → List Val → M Res} {t t' : Nat → M Res → M Res} {m m' : M Res} (h : ∀ f xs, Im (subR ρ) (c f xs) (c' f (subVs ρ xs))) (k : ∀ f m m', Im (subR ρ) m m' → Im (subR ρ) (t f m) (t' f m')) (z : Im (subR ρ) m m')
    (q : ∀ (b : E) (F F' : Sl → M Res), (∀ σ, Im (subR ρ) (F σ) (F' (subSl ρ σ))) → ∀ σ, Im (subR ρ) (w b F σ) (F' (subSl ρ σ))) : CIm ρ ((V.ctx c t m).withW w) (V.ctx c' t' m') := ⟨rfl, rfl, rfl, h, k, z, trivial, q⟩
/-! the calls by recursors, with a way for lambdas -/
section
variable (V : Wrl) (w : E → (Sl → M Res) → Sl → M Res)
noncomputable def defH (c : Nat → List Val → M Res) (t : Nat → M Res → M Res) (xs : List Val) : Option Def → M Res
  | some (.body np ns b) => .guard (xs.length == np) (bx ((xSL ((V.ctx c t .stuck).withW w) b).1 (startSl ns xs)) flRes)
  | some (.dice _ _) => match xs with
    | [.p (.list ns), .p (.int i)] => .guard (intList ns && decide (0 ≤ i) && decide (i < 1000)) (.ret (.v .dice))
    | _ => .stuck
  | some (.roll _ _) => match xs with
    | [.dice, .p (.int n)] => .guard (decide (0 < n) && decide (n < 1073741824)) (.roll n fun i => .ret (rI i))
    | _ => .stuck
  | _ => .stuck
noncomputable def thkH (c : Nat → List Val → M Res) (t : Nat → M Res → M Res) (m : M Res) : Option Def → M Res
  | some (.thunk ns b) => bx ((xSL ((V.ctx c t m).withW w) b).1 (some .thk :: List.replicate (ns - 1) none)) flRes
  | _ => .stuck
noncomputable def callH (d : Nat) : (Nat → List Val → M Res) × (Nat → M Res → M Res) :=
  @Nat.rec (fun _ => (Nat → List Val → M Res) × (Nat → M Res → M Res)) ⟨fun _ _ => .stuck, fun _ _ => .stuck⟩ (fun _ ih => ⟨fun f xs => defH V w ih.1 ih.2 xs V.defs[f]?, fun f m => thkH V w ih.1 ih.2 m V.defs[f]?⟩) d
noncomputable def ctxH (d : Nat) : Ctx := (V.ctx (callH V w d).1 (callH V w d).2 .stuck).withW w
end
theorem imCall (ρ : Nat → Val) (V : Wrl) (w : E → (Sl → M Res) → Sl → M Res) (q : ∀ (b : E) (F F' : Sl → M Res), (∀ σ, Im (subR ρ) (F σ) (F' (subSl ρ σ))) → ∀ σ, Im (subR ρ) (w b F σ) (F' (subSl ρ σ))) :
    ∀ d, (∀ f xs, Im (subR ρ) ((callH V w d).1 f xs) (callG V noSm d f (subVs ρ xs))) ∧ ∀ f m m', Im (subR ρ) m m' → Im (subR ρ) ((callH V w d).2 f m) (callTG V noSm d f m')
  | 0 => ⟨fun _ _ => trivial, fun _ _ _ _ => trivial⟩
  | d + 1 => by
    obtain ⟨h, k⟩ := imCall ρ V w q d
    refine ⟨fun f xs => ?_, fun f m m' z => ?_⟩
    · show Im _ (defH V w (callH V w d).1 (callH V w d).2 xs V.defs[f]?) _
      unfold callG noSm
      cases V.defs[f]? with
      | none => exact trivial
      | some df =>
        cases df with
        | body np ns b =>
          refine Im.guard (by rw [sub_len]) ?_
          rw [← sub_start, bx_eq, (xSL_eq _ b).1]
          exact (imSL (ctx_im (m := .stuck) (m' := .stuck) h k trivial q) b _).bind fun fs => im_flRes fs
        | thunk ns b => exact trivial
        | dice ns b =>
          show Im _ (match xs with | [.p (.list ns), .p (.int i)] => _ | _ => _) _
          split
          · exact Im.guard rfl (Im.ret rfl)
          · exact trivial
        | roll ns b =>
          show Im _ (match xs with | [.dice, .p (.int n)] => _ | _ => _) _
          split
          · exact Im.guard rfl ⟨_, rfl, fun i => rfl⟩
          · exact trivial
    · show Im _ (thkH V w (callH V w d).1 (callH V w d).2 m V.defs[f]?) _
      unfold callTG
      cases V.defs[f]? with
      | none => exact trivial
      | some df =>
        cases df with
        | body np ns b => exact trivial
        | thunk ns b =>
          show Im _ (bx _ _) _
          rw [bx_eq, (xSL_eq _ b).1]
          have z2 := (imSL (ctx_im (V := V) (w := w) h k z q) b (some .thk :: List.replicate (ns - 1) none)).bind fun fs => im_flRes fs
          rw [sub_thk] at z2
          exact z2
        | dice ns b => exact trivial
        | roll ns b => exact trivial
end Rf

set_option Elab.async false
set_option linter.all false
set_option maxRecDepth 100000
set_option maxHeartbeats 4000000
/-! R39: a body run over states with holes; a hole is split where a statement cannot do without. -/
namespace Rf
open PySem
mutual
/-- no holes -/
def clV : Val → Bool
  | .p _ => true
  | .fn i => Nat.blt i 1000000
  | .dice => true
  | .mt xs => clVs xs && (dataAll xs).isNone
def clVs : List Val → Bool
  | [] => true
  | x :: r => clV x && clVs r
end
mutual
theorem cl_sub {ρ : Nat → Val} : ∀ {v : Val}, clV v = true → subV ρ v = v
  | .p _, _ => rfl
  | .fn i, h => by
    unfold clV at h
    unfold subV
    rw [h]
    rfl
  | .dice, _ => rfl
  | .mt xs, h => by
    unfold clV at h
    simp only [Bool.and_eq_true, Option.isNone_iff_eq_none] at h
    show mkTup (subVs ρ xs) = _
    rw [cl_subs h.1]
    unfold mkTup
    rw [h.2]
theorem cl_subs {ρ : Nat → Val} : ∀ {xs : List Val}, clVs xs = true → subVs ρ xs = xs
  | [], _ => rfl
  | x :: r, h => by
    unfold clVs at h
    simp only [Bool.and_eq_true] at h
    show subV ρ x :: subVs ρ r = _
    rw [cl_sub h.1, cl_subs h.2]
end
/-- one hole filled -/
def one1 (j : Nat) (v : Val) : Nat → Val := fun i => cond (Nat.beq i j) v (.fn (1000000 + i))
mutual
theorem sub_one {ρ : Nat → Val} {j : Nat} {v : Val} (hv : ρ j = v) (hc : clV v = true) : ∀ x : Val, subV ρ (subV (one1 j v) x) = subV ρ x
  | .p _ => rfl
  | .dice => rfl
  | .fn i => by
    cases e : Nat.blt i 1000000 with
    | true =>
      have e1 : subV (one1 j v) (.fn i) = .fn i := by
        unfold subV
        rw [e]
        rfl
      rw [e1]
    | false =>
      have e1 : ∀ g : Nat → Val, subV g (.fn i) = g (i - 1000000) := fun g => by
        unfold subV
        rw [e]
        rfl
      have e1 := e1 (one1 j v)
      have e2 : subV ρ (.fn i) = ρ (i - 1000000) := by
        unfold subV
        rw [e]
        rfl
      rw [e1, e2]
      unfold one1
      cases eb : Nat.beq (i - 1000000) j with
      | true =>
        have h := Nat.eq_of_beq_eq_true eb
        show subV ρ v = _
        rw [cl_sub hc, h, hv]
      | false =>
        have hle : 1000000 ≤ i := by
          rcases Nat.lt_or_ge i 1000000 with h | h
          · exact absurd (Nat.blt_eq.mpr h) (by rw [e]; simp)
          · exact h
        have e3 : 1000000 + (i - 1000000) = i := by omega
        exact (congrArg (fun k => subV ρ (.fn k)) e3).trans e2
  | .mt xs => by
    show subV ρ (mkTup (subVs (one1 j v) xs)) = mkTup (subVs ρ xs)
    rw [sub_mkTup, sub_ones hv hc xs]
theorem sub_ones {ρ : Nat → Val} {j : Nat} {v : Val} (hv : ρ j = v) (hc : clV v = true) : ∀ xs : List Val, subVs ρ (subVs (one1 j v) xs) = subVs ρ xs
  | [] => rfl
  | x :: r => by
    show subV ρ (subV (one1 j v) x) :: subVs ρ (subVs (one1 j v) r) = _
    rw [sub_one hv hc x, sub_ones hv hc r]
    rfl
end
theorem sub_oneSl {ρ : Nat → Val} {j : Nat} {v : Val} (hv : ρ j = v) (hc : clV v = true) (σ : Sl) : subSl ρ (subSl (one1 j v) σ) = subSl ρ σ := by
  unfold subSl
  rw [List.map_map]
  refine List.map_congr_left fun s _ => ?_
  cases s with
  | none => rfl
  | some s =>
    cases s with
    | v x => exact congrArg (fun y => some (Slot.v y)) (sub_one hv hc x)
    | own xs => rfl
    | thk => rfl
/-- a state with holes, and what may stand in each -/
structure AS where
  sl : Sl
  hs : List (List Val)
def Inst (ρ : Nat → Val) (hs : List (List Val)) : Prop := ∀ j vs, hs[j]? = some vs → ρ j ∈ vs
def InA (A : AS) (σ : Sl) : Prop := ∃ ρ, Inst ρ A.hs ∧ σ = subSl ρ A.sl
mutual
def holeV : Val → Option Nat
  | .p _ => none
  | .dice => none
  | .fn i => cond (Nat.blt i 1000000) none (some (i - 1000000))
  | .mt xs => holeVs xs
def holeVs : List Val → Option Nat
  | [] => none
  | x :: r => match holeV x with
    | some j => some j
    | none => holeVs r
end
def holeAt (σ : Sl) : List Nat → Option Nat
  | [] => none
  | i :: r => match σ[i]? with
    | some (some (.v x)) => (match holeV x with
      | some j => some j
      | none => holeAt σ r)
    | _ => holeAt σ r
/-! ### a lambda's call that comes to the same whatever stands in a hole -/
mutual
/-- names that are looked at, in turn -/
def rdE : E → List Nat
  | .var i => [i]
  | .lit _ => []
  | .cst _ => []
  | .fnv _ => []
  | .tup es => rdL es
  | .lst es => rdL es
  | .bin _ a b => rdE a ++ rdE b
  | .neg a => rdE a
  | .not a => rdE a
  | .and a b => rdE a ++ rdE b
  | .or a b => rdE a ++ rdE b
  | .cmp _ a b => rdE a ++ rdE b
  | .cmp2 _ _ a b c => rdE a ++ (rdE b ++ rdE c)
  | .isn _ a => rdE a
  | .ife c a b => rdE c ++ (rdE a ++ rdE b)
  | .call _ es => rdL es
  | .callv i es => i :: rdL es
  | .thunk _ b => rdE b
  | .callT _ => []
  | .blt _ es => rdL es
  | .idx a b => rdE a ++ rdE b
  | .slc a _ _ => rdE a
  | .lc _ _ _ _ => []
  | .err _ => []
  | .dget _ _ => []
  | .lrng1 a => rdE a
  | .lrng2 a b => rdE a ++ rdE b
  | .bad => []
def rdL : EL → List Nat
  | .nil => []
  | .cons e es => rdE e ++ rdL es
  | .star e es => rdE e ++ rdL es
end
def isRetD (d : PyData) : M Res → Bool
  | .ret (.v (.p e)) => eqD d e
  | _ => false
def sameM : List (M Res) → M Res
  | .ret (.v (.p d)) :: r => cond (r.all (isRetD d)) (.ret (.v (.p d))) .stuck
  | _ => .stuck
theorem isRetD_ok {d : PyData} {m : M Res} (h : isRetD d m = true) : m = .ret (.v (.p d)) := by
  unfold isRetD at h
  split at h
  · rw [eqD_ok _ _ h]
  · cases h
theorem sameM_mem {l : List (M Res)} {x : M Res} (h : x ∈ l) : sameM l = .stuck ∨ sameM l = x := by
  unfold sameM
  split
  · rename_i d r
    cases e : r.all (isRetD d) with
    | false => exact .inl rfl
    | true =>
      refine .inr ?_
      rcases List.mem_cons.mp h with rfl | h
      · rfl
      · exact (isRetD_ok (List.all_eq_true.mp e x h)).symm
  · exact .inl rfl
def mergeT (hs : List (List Val)) (ord : List Nat) (F : Sl → M Res) : Nat → Sl → M Res
  | 0, σ => F σ
  | n + 1, σ => match F σ with
    | .stuck => (match holeAt σ ord with
      | none => .stuck
      | some j => match hs[j]? with
        | none => .stuck
        | some vs => sameM (vs.map fun v => cond (clV v) (mergeT hs ord F n (subSl (one1 j v) σ)) .stuck))
    | .ret a => .ret a
    | .exc c k => .exc c k
    | .roll i k => .roll i k
    | .any p k => .any p k
theorem mergeT_im {ρ : Nat → Val} {hs : List (List Val)} {ord : List Nat} {F F' : Sl → M Res} (hi : Inst ρ hs) (h : ∀ σ, Im (subR ρ) (F σ) (F' (subSl ρ σ))) : ∀ n σ, Im (subR ρ) (mergeT hs ord F n σ) (F' (subSl ρ σ))
  | 0, σ => h σ
  | n + 1, σ => by
    unfold mergeT
    have q := h σ
    cases e : F σ with
    | ret a =>
      rw [e] at q
      exact q
    | exc c k =>
      rw [e] at q
      exact q
    | roll i k =>
      rw [e] at q
      exact q
    | any p k =>
      rw [e] at q
      exact q
    | stuck =>
      simp only
      cases e2 : holeAt σ ord with
      | none => exact trivial
      | some j =>
        simp only
        cases e3 : hs[j]? with
        | none => exact trivial
        | some vs =>
          simp only
          have hv := hi j vs e3
          rcases sameM_mem (List.mem_map.mpr ⟨ρ j, hv, rfl⟩ : _ ∈ vs.map fun v => cond (clV v) (mergeT hs ord F n (subSl (one1 j v) σ)) .stuck) with z | z
          · rw [z]
            exact trivial
          · rw [z]
            cases ec : clV (ρ j) with
            | false => exact trivial
            | true =>
              have w := mergeT_im (ord := ord) hi h n (subSl (one1 j (ρ j)) σ)
              rw [sub_oneSl rfl ec] at w
              exact w
def mergeW (hs : List (List Val)) : E → (Sl → M Res) → Sl → M Res := fun b F σ => mergeT hs (rdE b) F 6 σ
def runS {β : Type} (f : Sl → Option β) (ord : List Nat) : Nat → AS → Option (List (AS × β))
  | 0, A => (f A.sl).map fun b => [(A, b)]
  | n + 1, A => match f A.sl with
    | some b => some [(A, b)]
    | none => match holeAt A.sl ord with
      | none => none
      | some j => match A.hs[j]? with
        | none => none
        | some vs => catO (fun v => cond (clV v) (runS f ord n ⟨subSl (one1 j v) A.sl, A.hs⟩) none) vs
theorem runS_ok {β : Type} {f : Sl → Option β} {ord : List Nat} : ∀ {n : Nat} {A : AS} {L : List (AS × β)} {ρ : Nat → Val}, runS f ord n A = some L → Inst ρ A.hs → ∃ B b, (B, b) ∈ L ∧ subSl ρ B.sl = subSl ρ A.sl ∧ f B.sl = some b ∧ B.hs = A.hs
  | 0, A, L, ρ, e, h => by
    obtain ⟨b, e1, rfl⟩ := Option.map_eq_some_iff.mp (show (f A.sl).map _ = some L from e)
    exact ⟨A, b, List.mem_cons_self, rfl, e1, rfl⟩
  | n + 1, A, L, ρ, e, h => by
    unfold runS at e
    cases e1 : f A.sl with
    | some b =>
      rw [e1] at e
      cases e
      exact ⟨A, b, List.mem_cons_self, rfl, e1, rfl⟩
    | none =>
      rw [e1] at e
      simp only at e
      cases e2 : holeAt A.sl ord with
      | none =>
        rw [e2] at e
        cases e
      | some j =>
        rw [e2] at e
        simp only at e
        cases e3 : A.hs[j]? with
        | none =>
          rw [e3] at e
          cases e
        | some vs =>
          rw [e3] at e
          simp only at e
          obtain ⟨xs, q1, q2⟩ := catO_ok e (ρ j) (h j vs e3)
          cases ec : clV (ρ j) with
          | false =>
            rw [ec] at q1
            cases q1
          | true =>
            rw [ec] at q1
            obtain ⟨B, b, m, z1, z2, z3⟩ := runS_ok (A := ⟨subSl (one1 j (ρ j)) A.sl, A.hs⟩) (show runS f ord n _ = some xs from q1) h
            refine ⟨B, b, q2 _ m, ?_, z2, z3⟩
            rw [z1]
            exact sub_oneSl rfl ec A.sl
/-! ### the same states as one -/
mutual
/-- holes below n alone -/
def lowV (n : Nat) : Val → Bool
  | .p _ => true
  | .dice => true
  | .fn i => Nat.blt i (1000000 + n)
  | .mt xs => lowVs n xs
def lowVs (n : Nat) : List Val → Bool
  | [] => true
  | x :: r => lowV n x && lowVs n r
end
mutual
theorem low_sub {ρ ρ' : Nat → Val} {n : Nat} (h : ∀ j, j < n → ρ' j = ρ j) : ∀ {v : Val}, lowV n v = true → subV ρ' v = subV ρ v
  | .p _, _ => rfl
  | .dice, _ => rfl
  | .fn i, q => by
    unfold lowV at q
    have q := Nat.blt_eq.mp q
    unfold subV
    cases e : Nat.blt i 1000000 with
    | true => rfl
    | false =>
      show ρ' (i - 1000000) = ρ (i - 1000000)
      rcases Nat.lt_or_ge i 1000000 with z | z
      · exact absurd (Nat.blt_eq.mpr z) (by rw [e]; simp)
      · exact h _ (by omega)
  | .mt xs, q => by
    unfold lowV at q
    show mkTup (subVs ρ' xs) = mkTup (subVs ρ xs)
    rw [low_subs h q]
theorem low_subs {ρ ρ' : Nat → Val} {n : Nat} (h : ∀ j, j < n → ρ' j = ρ j) : ∀ {v : List Val}, lowVs n v = true → subVs ρ' v = subVs ρ v
  | [], _ => rfl
  | x :: r, q => by
    unfold lowVs at q
    simp only [Bool.and_eq_true] at q
    show subV ρ' x :: subVs ρ' r = _
    rw [low_sub h q.1, low_subs h q.2]
    rfl
end
def lowO (n : Nat) : Option Slot → Bool
  | some (.v x) => lowV n x
  | _ => true
theorem low_subO {ρ ρ' : Nat → Val} {n : Nat} (h : ∀ j, j < n → ρ' j = ρ j) {o : Option Slot} (q : lowO n o = true) : subO ρ' o = subO ρ o := by
  cases o with
  | none => rfl
  | some s =>
    cases s with
    | v x => exact congrArg (fun y => some (Slot.v y)) (low_sub h q)
    | own xs => rfl
    | thk => rfl
def valsOf : List (Option Slot) → Option (List Val)
  | [] => some []
  | some (.v x) :: r => cond (clV x) ((valsOf r).map (x :: ·)) none
  | _ :: _ => none
theorem valsOf_mem : ∀ {os : List (Option Slot)} {vs : List Val}, valsOf os = some vs → ∀ o ∈ os, ∃ x, o = some (.v x) ∧ clV x = true ∧ x ∈ vs
  | [], _, _, _, h => by cases h
  | none :: _, _, e, _, _ => by cases e
  | some (.own _) :: _, _, e, _, _ => by cases e
  | some .thk :: _, _, e, _, _ => by cases e
  | some (.v x) :: r, vs, e, o, h => by
    unfold valsOf at e
    cases ec : clV x with
    | false =>
      rw [ec] at e
      cases e
    | true =>
      rw [ec] at e
      obtain ⟨us, e1, rfl⟩ := Option.map_eq_some_iff.mp (show (valsOf r).map (x :: ·) = some vs from e)
      rcases List.mem_cons.mp h with rfl | h
      · exact ⟨x, rfl, ec, List.mem_cons_self⟩
      · obtain ⟨y, q1, q2, q3⟩ := valsOf_mem e1 o h
        exact ⟨y, q1, q2, List.mem_cons_of_mem _ q3⟩
def dedV : List Val → List Val → List Val
  | [], acc => acc.reverse
  | x :: r, acc => cond (acc.any (eqV x)) (dedV r acc) (dedV r (x :: acc))
theorem dedV_mem {x : Val} : ∀ (xs acc : List Val), x ∈ xs ∨ x ∈ acc → x ∈ dedV xs acc
  | [], acc, h => by
    rcases h with h | h
    · cases h
    · exact List.mem_reverse.mpr h
  | y :: r, acc, h => by
    unfold dedV
    cases e : acc.any (eqV y) with
    | true =>
      refine dedV_mem r acc ?_
      rcases h with h | h
      · rcases List.mem_cons.mp h with rfl | h
        · obtain ⟨t, ht, q⟩ := List.any_eq_true.mp e
          rw [eqV_ok q]
          exact .inr ht
        · exact .inl h
      · exact .inr h
    | false =>
      refine dedV_mem r (y :: acc) ?_
      rcases h with h | h
      · rcases List.mem_cons.mp h with rfl | h
        · exact .inr List.mem_cons_self
        · exact .inl h
      · exact .inr (List.mem_cons_of_mem _ h)
def lowSl (n : Nat) (s : Sl) : Bool := s.all (lowO n)
/-- all states of a list as one; n: places left -/
def joinG : Nat → List (List Val) → List Sl → Option AS
  | 0, hs, _ => some ⟨[], hs⟩
  | n + 1, hs, ss => match ss.map fun s => s.headD none with
    | [] => none
    | c :: cs => cond (cs.all (eqO c)) ((joinG n hs (ss.map List.tail)).map fun J => ⟨c :: J.sl, J.hs⟩) (match valsOf (c :: cs) with
      | none => none
      | some vs => (joinG n (hs ++ [dedV vs []]) (ss.map List.tail)).map fun J => ⟨some (.v (.fn (1000000 + hs.length))) :: J.sl, J.hs⟩)
theorem joinG_ok {m : Nat} : ∀ {n : Nat} {hs : List (List Val)} {ss : List Sl} {J : AS} {ρ : Nat → Val} {s : Sl}, joinG n hs ss = some J → m ≤ hs.length → Inst ρ hs → s ∈ ss → s.length = n → lowSl m s = true →
    ∃ ρ', Inst ρ' J.hs ∧ (∀ j, j < hs.length → ρ' j = ρ j) ∧ subSl ρ' J.sl = subSl ρ s
  | 0, hs, ss, J, ρ, s, e, hm, hi, h, hl, _ => by
    cases e
    cases s with
    | nil => exact ⟨ρ, hi, fun _ _ => rfl, rfl⟩
    | cons _ _ => cases hl
  | n + 1, hs, ss, J, ρ, s, e, hm, hi, h, hl, lo => by
    cases s with
    | nil => cases hl
    | cons o t =>
      have ht : t ∈ ss.map List.tail := List.mem_map.mpr ⟨o :: t, h, rfl⟩
      have hlt : t.length = n := Nat.succ.inj hl
      have lo : (lowO m o && t.all (lowO m)) = true := lo
      simp only [Bool.and_eq_true] at lo
      have ho : o ∈ ss.map fun s => s.headD none := List.mem_map.mpr ⟨o :: t, h, rfl⟩
      unfold joinG at e
      cases ec : ss.map fun s => s.headD none with
      | nil =>
        rw [ec] at e
        cases e
      | cons c cs =>
        rw [ec] at e ho
        simp only at e
        cases ea : cs.all (eqO c) with
        | true =>
          rw [ea] at e
          obtain ⟨J', e1, rfl⟩ := Option.map_eq_some_iff.mp (show (joinG n hs _).map _ = some J from e)
          obtain ⟨ρ', q1, q2, q3⟩ := joinG_ok e1 hm hi ht hlt lo.2
          refine ⟨ρ', q1, q2, ?_⟩
          show subO ρ' c :: subSl ρ' J'.sl = subO ρ o :: subSl ρ t
          have eo : c = o := by
            rcases List.mem_cons.mp ho with rfl | ho
            · rfl
            · exact eqO_ok (List.all_eq_true.mp ea o ho)
          rw [q3, eo, low_subO (fun j hj => q2 j (by omega)) lo.1]
        | false =>
          rw [ea] at e
          have e : (match valsOf (c :: cs) with
            | none => none
            | some vs => (joinG n (hs ++ [dedV vs []]) (ss.map List.tail)).map fun J => (⟨some (.v (.fn (1000000 + hs.length))) :: J.sl, J.hs⟩ : AS)) = some J := e
          cases ev : valsOf (c :: cs) with
          | none =>
            rw [ev] at e
            cases e
          | some vs =>
            rw [ev] at e
            simp only at e
            obtain ⟨J', e1, rfl⟩ := Option.map_eq_some_iff.mp e
            obtain ⟨x, rfl, hx, hxm⟩ := valsOf_mem ev o ho
            have hi' : Inst (fun j => if j = hs.length then x else ρ j) (hs ++ [dedV vs []]) := by
              intro j us hu
              rcases Nat.lt_or_ge j hs.length with z | z
              · rw [List.getElem?_append_left z] at hu
                show (if j = hs.length then x else ρ j) ∈ us
                rw [if_neg (by omega)]
                exact hi j us hu
              · rw [List.getElem?_append_right z] at hu
                have hj : j - hs.length = 0 := by
                  rcases Nat.eq_zero_or_pos (j - hs.length) with w | w
                  · exact w
                  · rw [List.getElem?_eq_none (by simp; omega)] at hu
                    cases hu
                rw [hj] at hu
                cases hu
                show (if j = hs.length then x else ρ j) ∈ _
                rw [if_pos (by omega)]
                exact dedV_mem _ _ (.inl hxm)
            obtain ⟨ρ', q1, q2, q3⟩ := joinG_ok e1 (by simp; omega) hi' ht hlt lo.2
            refine ⟨ρ', q1, fun j hj => ?_, ?_⟩
            · rw [q2 j (by simp; omega)]
              exact if_neg (by omega)
            · show subO ρ' (some (.v (.fn (1000000 + hs.length)))) :: subSl ρ' J'.sl = subO ρ (some (.v x)) :: subSl ρ t
              have e5 : subSl (fun j => if j = hs.length then x else ρ j) t = subSl ρ t := by
                unfold subSl
                refine List.map_congr_left fun o ho => low_subO (n := m) (fun j hj => if_neg (by omega)) ?_
                exact List.all_eq_true.mp lo.2 o ho
              have e6 : subO ρ' (some (.v (.fn (1000000 + hs.length)))) = some (.v x) := by
                show some (Slot.v (subV ρ' (.fn (1000000 + hs.length)))) = _
                unfold subV
                have eb : Nat.blt (1000000 + hs.length) 1000000 = false := by
                  cases z : Nat.blt (1000000 + hs.length) 1000000 with
                  | false => rfl
                  | true => exact absurd (Nat.blt_eq.mp z) (by omega)
                rw [eb]
                show some (Slot.v (ρ' (1000000 + hs.length - 1000000))) = _
                rw [Nat.add_sub_cancel_left, q2 _ (by simp)]
                exact congrArg (fun y => some (Slot.v y)) (if_pos rfl)
              have e7 : subO ρ (some (.v x)) = some (.v x) := congrArg (fun y => some (Slot.v y)) (cl_sub hx)
              rw [q3, e5, e6, e7]
def joinA (hs : List (List Val)) (ss : List Sl) : Option (List AS) := match ss with
  | [] => some []
  | s :: _ => cond (ss.all fun t => Nat.beq t.length s.length && lowSl hs.length t) ((joinG s.length hs ss).map fun J => [J]) none
theorem joinA_ok {hs : List (List Val)} {ss : List Sl} {Js : List AS} {ρ : Nat → Val} {s : Sl} (e : joinA hs ss = some Js) (hi : Inst ρ hs) (h : s ∈ ss) : ∃ J ∈ Js, InA J (subSl ρ s) := by
  cases ss with
  | nil => cases h
  | cons s0 r =>
    unfold joinA at e
    simp only at e
    cases ea : (s0 :: r).all fun t => Nat.beq t.length s0.length && lowSl hs.length t with
    | false =>
      rw [ea] at e
      cases e
    | true =>
      rw [ea] at e
      obtain ⟨J, e1, rfl⟩ := Option.map_eq_some_iff.mp (show (joinG s0.length hs (s0 :: r)).map _ = some Js from e)
      have q := List.all_eq_true.mp ea s h
      simp only [Bool.and_eq_true] at q
      obtain ⟨ρ', q1, _, q3⟩ := joinG_ok e1 (Nat.le_refl _) hi h (Nat.eq_of_beq_eq_true q.1) q.2
      exact ⟨J, List.mem_cons_self, ρ', q1, q3.symm⟩
/-! ### statements -/
def sameA (L : List (AS × FS)) : Bool := L.all fun p => p.2.all fun o => isNx o && eqSl o.2 p.1.sl
def postA : List (AS × FS) → Option (List Sl)
  | [] => some []
  | p :: r => cond ((others p.2).all (okF isTrue)) ((postA r).map (nexts p.2 ++ ·)) none
theorem postA_ok : ∀ {L : List (AS × FS)} {ss : List Sl}, postA L = some ss → ∀ p ∈ L, ∀ o ∈ p.2, (∃ s, o = (.nx, s) ∧ s ∈ ss) ∨ (okF isTrue o = true ∧ isNx o = false)
  | [], _, _, _, h, _, _ => by cases h
  | q :: r, ss, e, p, h, o, ho => by
    unfold postA at e
    cases ec : (others q.2).all (okF isTrue) with
    | false =>
      rw [ec] at e
      cases e
    | true =>
      rw [ec] at e
      obtain ⟨us, e1, rfl⟩ := Option.map_eq_some_iff.mp (show (postA r).map _ = some ss from e)
      rcases List.mem_cons.mp h with rfl | h
      · rcases fs_split ho with ⟨s, rfl, z⟩ | ⟨z1, z2⟩
        · exact .inl ⟨s, rfl, List.mem_append_left _ z⟩
        · exact .inr ⟨List.all_eq_true.mp ec o z1, z2⟩
      · rcases postA_ok e1 p h o ho with ⟨s, z1, z2⟩ | z
        · exact .inl ⟨s, z1, List.mem_append_right _ z2⟩
        · exact .inr z
theorem leaves_mem {α : Type} {E : Nat → Option PyData → Prop} {m : M α} {l : List α} (e : leaves m = some l) : m.wp (fun a => a ∈ l) E := leaves_ok e fun _ h => h
noncomputable def stepA (Cf : List (List Val) → Ctx) (s : S) (an : List Nat × Bool) (A : AS) : Option (List AS) := match runS (fun t => leaves ((xS (Cf A.hs) s).1 t)) an.1 64 A with
  | none => none
  | some L => cond (sameA L) (some [A]) (match postA L with
    | none => none
    | some ss => cond an.2 (joinA A.hs ss) (some (ss.map fun t => ⟨t, A.hs⟩)))
def EndA (Bs : List AS) (f : Fl × Sl) : Prop := (∃ s, f = (.nx, s) ∧ ∃ B ∈ Bs, InA B s) ∨ (okF isTrue f = true ∧ isNx f = false)
theorem isTrue_sub {ρ : Nat → Val} {f : Fl × Sl} (h : okF isTrue f = true) (n : isNx f = false) : okF isTrue (subF ρ f) = true ∧ isNx (subF ρ f) = false := by
  obtain ⟨k, s⟩ := f
  cases k with
  | nx => cases n
  | brk => cases h
  | cont => cases h
  | ret r =>
    refine ⟨?_, rfl⟩
    show isTrue (subR ρ r).up = true
    have h : r.up = .v (.p (.bool true)) := isTrue_ok h
    cases r with
    | l _ _ => cases h
    | v x =>
      have h : Res.v x = _ := h
      cases h
      rfl
theorem stepA_ok {Cf : List (List Val) → Ctx} {C : Ctx} {s : S} {an : List Nat × Bool} {A : AS} {Bs : List AS} {σ : Sl} {E : Nat → Option PyData → Prop} (hC : ∀ ρ hs, Inst ρ hs → CIm ρ (Cf hs) C) (e : stepA Cf s an A = some Bs) (h : InA A σ) : (evS C s σ).wp (EndA Bs) E := by
  obtain ⟨ρ, hi, rfl⟩ := h
  unfold stepA at e
  cases er : runS (fun t => leaves ((xS (Cf A.hs) s).1 t)) an.1 64 A with
  | none =>
    rw [er] at e
    cases e
  | some L =>
    rw [er] at e
    have e : (bif sameA L then some [A] else match postA L with
      | none => none
      | some ss => cond an.2 (joinA A.hs ss) (some (ss.map fun t => (⟨t, A.hs⟩ : AS)))) = some Bs := e
    obtain ⟨B, outs, m, e1, e2, e3⟩ := runS_ok er hi
    simp only [(xS_eq (Cf A.hs) s).1] at e2
    have w : (evS C s (subSl ρ B.sl)).wp (fun f => ∃ o ∈ outs, f = subF ρ o) E := Im.wp (imS (hC ρ A.hs hi) s B.sl) (M.wp_mono _ (leaves_mem e2) (fun o ho => ⟨o, ho, rfl⟩) fun _ _ z => z)
    rw [e1] at w
    refine M.wp_mono _ w (fun f hf => ?_) fun _ _ z => z
    obtain ⟨o, ho, rfl⟩ := hf
    cases es : sameA L with
    | true =>
      rw [es] at e
      cases e
      have q := List.all_eq_true.mp (List.all_eq_true.mp es (B, outs) m) o ho
      simp only [Bool.and_eq_true] at q
      obtain ⟨k, t⟩ := o
      cases k with
      | nx =>
        have et : t = B.sl := eqSl_ok q.2
        exact .inl ⟨subSl ρ t, rfl, A, List.mem_cons_self, ρ, hi, by rw [et, e1]⟩
      | brk => cases q.1
      | cont => cases q.1
      | ret r => cases q.1
    | false =>
      rw [es] at e
      have e : (match postA L with
        | none => none
        | some ss => cond an.2 (joinA A.hs ss) (some (ss.map fun t => (⟨t, A.hs⟩ : AS)))) = some Bs := e
      cases ep : postA L with
      | none =>
        rw [ep] at e
        cases e
      | some ss =>
        rw [ep] at e
        have e : (cond an.2 (joinA A.hs ss) (some (ss.map fun t => (⟨t, A.hs⟩ : AS)))) = some Bs := e
        rcases postA_ok ep (B, outs) m o ho with ⟨t, rfl, ht⟩ | ⟨z1, z2⟩
        · refine .inl ⟨subSl ρ t, rfl, ?_⟩
          cases ej : an.2 with
          | true =>
            rw [ej] at e
            exact joinA_ok e hi ht
          | false =>
            rw [ej] at e
            cases e
            exact ⟨⟨t, A.hs⟩, List.mem_map.mpr ⟨t, ht, rfl⟩, ρ, hi, rfl⟩
        · exact .inr (isTrue_sub z1 z2)
/-! ### a body -/
def eqHs : List (List Val) → List (List Val) → Bool
  | [], [] => true
  | a :: r, b :: s => eqVs a b && eqHs r s
  | _, _ => false
theorem eqHs_ok : ∀ {a b : List (List Val)}, eqHs a b = true → a = b
  | [], [], _ => rfl
  | a :: r, b :: s, h => by
    simp only [eqHs, Bool.and_eq_true] at h
    rw [eqVs_ok h.1, eqHs_ok h.2]
  | [], _ :: _, h => by simp [eqHs] at h
  | _ :: _, [], h => by simp [eqHs] at h
def eqA (A B : AS) : Bool := eqSl A.sl B.sl && eqHs A.hs B.hs
theorem eqA_ok {A B : AS} (h : eqA A B = true) : A = B := by
  obtain ⟨a, b⟩ := A
  obtain ⟨c, d⟩ := B
  have h : (eqSl a c && eqHs b d) = true := h
  simp only [Bool.and_eq_true] at h
  rw [eqSl_ok h.1, eqHs_ok h.2]
def dedA : List AS → List AS → List AS
  | [], acc => acc.reverse
  | A :: r, acc => cond (acc.any (eqA A)) (dedA r acc) (dedA r (A :: acc))
theorem dedA_mem {A : AS} : ∀ (xs acc : List AS), A ∈ xs ∨ A ∈ acc → A ∈ dedA xs acc
  | [], acc, h => by
    rcases h with h | h
    · cases h
    · exact List.mem_reverse.mpr h
  | y :: r, acc, h => by
    unfold dedA
    cases e : acc.any (eqA y) with
    | true =>
      refine dedA_mem r acc ?_
      rcases h with h | h
      · rcases List.mem_cons.mp h with rfl | h
        · obtain ⟨t, ht, q⟩ := List.any_eq_true.mp e
          rw [eqA_ok q]
          exact .inr ht
        · exact .inl h
      · exact .inr h
    | false =>
      refine dedA_mem r (y :: acc) ?_
      rcases h with h | h
      · rcases List.mem_cons.mp h with rfl | h
        · exact .inr List.mem_cons_self
        · exact .inl h
      · exact .inr (List.mem_cons_of_mem _ h)
theorem sub_frz (ρ : Nat → Val) (i : Nat) (σ : Sl) : frzOne i (subSl ρ σ) = subSl ρ (frzOne i σ) := by
  unfold frzOne
  rw [subSl_get]
  cases h : σ[i]? with
  | none => rfl
  | some o =>
    cases o with
    | none => rfl
    | some s =>
      cases s with
      | own xs =>
        show (subSl ρ σ).set i _ = subSl ρ (σ.set i _)
        rw [subSl_set]
        rfl
      | v x => rfl
      | thk => rfl
/-- the context of a text with holes -/
noncomputable def ctxM (V : Wrl) (d : Nat) (hs : List (List Val)) : Ctx := ctxH V (mergeW hs) d
theorem ctxM_im {V : Wrl} {d : Nat} (ρ : Nat → Val) (hs : List (List Val)) (hi : Inst ρ hs) : CIm ρ (ctxM V d hs) (ctxX V noSm d) := by
  rw [ctxX_eq]
  have q : ∀ (b : E) (F F' : Sl → M Res), (∀ σ, Im (subR ρ) (F σ) (F' (subSl ρ σ))) → ∀ σ, Im (subR ρ) (mergeW hs b F σ) (F' (subSl ρ σ)) := fun b F F' h σ => mergeT_im hi h 6 σ
  obtain ⟨h, k⟩ := imCall ρ V (mergeW hs) q d
  exact ctx_im (m := .stuck) (m' := .stuck) h k trivial q
end Rf

set_option Elab.async false
set_option linter.all false
set_option maxRecDepth 100000
set_option maxHeartbeats 4000000
/-! R40: the driver, statement by statement, from written states to written states. -/
namespace Rf
open PySem
/-- what is forgotten or handed on ahead of the next statement -/
def advA : SL → AS → AS
  | .frz i r, A => advA r ⟨frzOne i A.sl, A.hs⟩
  | .kill i r, A => advA r ⟨A.sl.set i none, A.hs⟩
  | .nil, A => A
  | .cons _ _, A => A
def stripS : SL → SL
  | .frz _ r => stripS r
  | .kill _ r => stripS r
  | .nil => .nil
  | .cons s r => .cons s r
def atS : Nat → SL → SL
  | 0, b => stripS b
  | n + 1, b => match stripS b with
    | .cons _ r => atS n r
    | _ => .nil
theorem adv_ok {C : Ctx} {Q : Fl × Sl → Prop} {E : Nat → Option PyData → Prop} : ∀ {b : SL} {A : AS} {σ : Sl}, InA A σ → (∀ τ, InA (advA b A) τ → (evSL C (stripS b) τ).wp Q E) → (evSL C b σ).wp Q E
  | .nil, A, σ, h, k => k σ h
  | .cons s r, A, σ, h, k => k σ h
  | .frz i r, A, σ, h, k => by
    show (frzM i (evSL C r) σ).wp Q E
    rw [frz_one]
    obtain ⟨ρ, hi, rfl⟩ := h
    exact adv_ok (b := r) (A := ⟨frzOne i A.sl, A.hs⟩) ⟨ρ, hi, sub_frz ρ i A.sl⟩ k
  | .kill i r, A, σ, h, k => by
    show (evSL C r (σ.set i none)).wp Q E
    obtain ⟨ρ, hi, rfl⟩ := h
    refine adv_ok (b := r) (A := ⟨A.sl.set i none, A.hs⟩) ⟨ρ, hi, ?_⟩ k
    show _ = subSl ρ (A.sl.set i none)
    rw [subSl_set]
    rfl
/-- all states of a list run through the rest of a body, each end True -/
structure RunN (C : Ctx) (b : SL) (n : Nat) (As : List AS) : Prop where
  go : ∀ A ∈ As, ∀ σ, InA A σ → ∀ E, (evSL C (atS n b) σ).wp (EndA []) E
noncomputable def okS (Cf : List (List Val) → Ctx) (an : List Nat × Bool) (Bs : List AS) (A : AS) : SL → Bool
  | .cons s r => match stepA Cf s an A with
    | some Xs => Xs.all fun X => Bs.any (eqA (advA r X))
    | none => false
  | _ => false
noncomputable def okStN (Cf : List (List Val) → Ctx) (b : SL) (n : Nat) (an : List Nat × Bool) (Bs As : List AS) : Bool := As.all fun A => okS Cf an Bs A (atS n b)
theorem atS_next : ∀ {n : Nat} {b : SL} {s : S} {r : SL}, atS n b = .cons s r → atS (n + 1) b = stripS r
  | 0, b, s, r, e => by
    have e : stripS b = .cons s r := e
    show (match stripS b with | .cons _ r => atS 0 r | _ => .nil) = _
    rw [e]
    rfl
  | n + 1, b, s, r, e => by
    have e : (match stripS b with | .cons _ r => atS n r | _ => .nil) = .cons s r := e
    show (match stripS b with | .cons _ r => atS (n + 1) r | _ => .nil) = _
    cases e2 : stripS b with
    | cons s2 r2 =>
      rw [e2] at e
      exact atS_next e
    | nil =>
      rw [e2] at e
      cases e
    | frz i r2 =>
      rw [e2] at e
      cases e
    | kill i r2 =>
      rw [e2] at e
      cases e
theorem RunN.step {Cf : List (List Val) → Ctx} {C : Ctx} {b : SL} {n : Nat} {an : List Nat × Bool} {As Bs : List AS} (hC : ∀ ρ hs, Inst ρ hs → CIm ρ (Cf hs) C) (h : okStN Cf b n an Bs As = true) (k : RunN C b (n + 1) Bs) : RunN C b n As := by
  refine ⟨fun A hA σ hσ E => ?_⟩
  have q := List.all_eq_true.mp h A hA
  unfold okS at q
  cases e : atS n b with
  | nil =>
    rw [e] at q
    cases q
  | frz i r =>
    rw [e] at q
    cases q
  | kill i r =>
    rw [e] at q
    cases q
  | cons s r =>
    rw [e] at q
    simp only at q
    cases es : stepA Cf s an A with
    | none =>
      rw [es] at q
      cases q
    | some Xs =>
      rw [es] at q
      have q : (Xs.all fun X => Bs.any (eqA (advA r X))) = true := q
      show (seqM (evS C s) (evSL C r) σ).wp (EndA []) E
      unfold seqM
      rw [M.wp_bind]
      refine M.wp_mono _ (stepA_ok (E := E) hC es hσ) (fun f hf => ?_) fun _ _ z => z
      rcases hf with ⟨t, rfl, X, hX, hXt⟩ | ⟨z1, z2⟩
      · obtain ⟨B, hB, eB⟩ := List.any_eq_true.mp (List.all_eq_true.mp q X hX)
        refine adv_ok (b := r) hXt fun τ hτ => ?_
        rw [eqA_ok eB] at hτ
        have w := k.go B hB τ hτ E
        rw [atS_next e] at w
        exact w
      · obtain ⟨k, t⟩ := f
        cases k with
        | nx => cases z2
        | brk => exact .inr ⟨z1, z2⟩
        | cont => exact .inr ⟨z1, z2⟩
        | ret r => exact .inr ⟨z1, z2⟩
theorem RunN.done {C : Ctx} {b : SL} {n : Nat} : RunN C b n [] := ⟨fun A hA => by cases hA⟩
theorem RunN.app {C : Ctx} {b : SL} {n : Nat} {As Bs : List AS} (h : RunN C b n As) (k : RunN C b n Bs) : RunN C b n (As ++ Bs) := ⟨fun A hA => by
  rcases List.mem_append.mp hA with hA | hA
  · exact h.go A hA
  · exact k.go A hA⟩
/-- a hole filled in all ways -/
def fillA (j : Nat) (A : AS) : Option (List AS) := match A.hs[j]? with
  | none => none
  | some vs => cond (vs.all clV) (some (vs.map fun v => ⟨subSl (one1 j v) A.sl, A.hs⟩)) none
def okF1 (j : Nat) (Bs As : List AS) : Bool := As.all fun A => match fillA j A with
  | none => false
  | some Xs => Xs.all fun X => Bs.any (eqA X)
theorem RunN.fill {C : Ctx} {b : SL} {n j : Nat} {As Bs : List AS} (h : okF1 j Bs As = true) (k : RunN C b n Bs) : RunN C b n As := by
  refine ⟨fun A hA σ hσ E => ?_⟩
  have q := List.all_eq_true.mp h A hA
  unfold fillA at q
  cases e : A.hs[j]? with
  | none =>
    rw [e] at q
    cases q
  | some vs =>
    rw [e] at q
    simp only at q
    cases ec : vs.all clV with
    | false =>
      rw [ec] at q
      cases q
    | true =>
      rw [ec] at q
      have q : ((vs.map fun v => (⟨subSl (one1 j v) A.sl, A.hs⟩ : AS)).all fun X => Bs.any (eqA X)) = true := q
      obtain ⟨ρ, hi, rfl⟩ := hσ
      have hv := hi j vs e
      obtain ⟨B, hB, eB⟩ := List.any_eq_true.mp (List.all_eq_true.mp q _ (List.mem_map.mpr ⟨ρ j, hv, rfl⟩))
      refine k.go B hB _ ⟨ρ, ?_, ?_⟩ E
      · rw [← eqA_ok eB]
        exact hi
      · rw [← eqA_ok eB]
        exact (sub_oneSl rfl (List.all_eq_true.mp ec _ hv) A.sl).symm
theorem trueN {V : Wrl} {d f np ns : Nat} {b : SL} {xs : List Val} (e : V.defs[f]? = some (.body np ns b)) (hl : xs.length = np) (hc : clVs xs = true) {As : List AS} (hs : As.any (eqA (advA b ⟨startSl ns xs, []⟩)) = true) (h : RunN (ctxX V noSm d) b 0 As) : Le (.ret (rB true)) (callF V (d + 1) f xs) := by
  refine Le.trans (b := (evSL (V.ctx (callG V noSm d) (callTG V noSm d) .stuck) b (startSl ns xs)).bind flRes) (le_true fun E => ?_) ?_
  · have w : (evSL (ctxX V noSm d) b (startSl ns xs)).wp (EndA []) E := adv_ok (b := b) (A := ⟨startSl ns xs, []⟩) ⟨fun _ => .dice, (fun j vs z => by simp at z), by show _ = subSl _ (startSl ns xs); rw [sub_start, cl_subs hc]⟩ fun τ hτ => by
      obtain ⟨B, hB, eB⟩ := List.any_eq_true.mp hs
      rw [eqA_ok eB] at hτ
      exact h.go B hB τ hτ E
    rw [ctxX_eq] at w
    rw [M.wp_bind]
    refine M.wp_mono _ w (fun f hf => ?_) fun _ _ z => z
    rcases hf with ⟨t, rfl, B, hB, _⟩ | ⟨z1, z2⟩
    · cases hB
    · obtain ⟨k, t⟩ := f
      cases k with
      | nx => cases z2
      | brk => cases z1
      | cont => cases z1
      | ret r => exact z1
  · rw [callF_body e hl]
    obtain ⟨q1, q2⟩ := callG_le V noSm 0 (noSm_ok V) d
    have q1' : ∀ f xs, Le (callG V noSm d f xs) (callF V d f xs) := fun f xs => by
      have q := q1 f xs
      rw [Nat.zero_add] at q
      exact q
    have q2' : ∀ f m m', Le m m' → Le (callTG V noSm d f m) (callTF V d f m') := fun f m m' z => by
      have q := q2 f m m' z
      rw [Nat.zero_add] at q
      exact q
    exact (leSL (ctx_le q1' q2' .refl) b _).bind fun _ => .refl
end Rf

set_option Elab.async false
set_option linter.all false
set_option maxRecDepth 100000
set_option maxHeartbeats 4000000
/-! R41: the row's head in pieces. -/
namespace Rf
open PySem PySem.W HandSHeadRun L2
theorem runEq_split {r : OpenRow} {q : Program} {H : Hook} {ob : SharedT → H.α} {M : Nat} {loose : List PySem.Str} {w : World}
    (hA : ∀ os : OsState, (endF (stepQ (denQ tabQ) r.prog w) M r.prog w os).map (fun s => (looksF r.prog (boot_heap w.params) s.abs, seenQ q loose (importedModules r.prog.main.body) (fun s => xlAt q [] s && recOk r.toRowW.records s) s.abs)) = some (true, openGood q loose))
    (hB : ∀ os : OsState, (endF (stepQ (denQ tabQ) r.prog w) M r.prog w os).map ob = some (H.val w)) : RunEq r q H ob M loose w := fun os => by
  have a := hA os
  have b := hB os
  revert a b
  generalize endF (stepQ (denQ tabQ) r.prog w) M r.prog w os = o
  intro a b
  cases o with
  | none => cases a
  | some s =>
    have a1 := Option.some.inj (show some _ = _ from a)
    have b1 := Option.some.inj (show some _ = _ from b)
    show some (_, _, ob s) = _
    rw [b1]
    have p1 := congrArg Prod.fst a1
    have p2 := congrArg Prod.snd a1
    simp only at p1 p2
    rw [p1, p2]
def kF (as : (Addr → Option Obj) → List Addr) (s : SharedT) : PySem.W.Frag := He.frT (getT s) (as (getT s))
def ob1 (as : (Addr → Option Obj) → List Addr) (X : Txt) (s : SharedT) : Bool := X.G.all (X.gB (kF as s)) && bltNames.all (X.nB (kF as s)) && (List.range X.cls.length).all (X.cB (kF as s)) && He.tabsB (getT s) (tfOf X.tq) (kF as s)
def ob2 (as : (Addr → Option Obj) → List Addr) (X : Txt) (m i : Nat) (s : SharedT) : Bool := (((List.range X.fns.length).drop (i * m)).take m).all (X.dB (kF as s))
theorem ob_split {as : (Addr → Option Obj) → List Addr} {X : Txt} {m k : Nat} {o : Option SharedT} (hm : 0 < m) (hk : Nat.ble X.fns.length (k * m) = true) (h1 : o.map (ob1 as X) = some true) (h2 : ∀ i, i < k → o.map (ob2 as X m i) = some true) : o.map (obR as X) = some true := by
  cases o with
  | none => cases h1
  | some s =>
    have h1 : ob1 as X s = true := Option.some.inj h1
    have h2 : ∀ i, i < k → ob2 as X m i s = true := fun i hi => Option.some.inj (h2 i hi)
    have hk := Nat.le_of_ble_eq_true hk
    unfold ob1 at h1
    simp only [Bool.and_eq_true] at h1
    obtain ⟨⟨⟨a1, a2⟩, a3⟩, a4⟩ := h1
    have a5 : (List.range X.fns.length).all (X.dB (kF as s)) = true := by
      rw [List.all_eq_true]
      intro x hx
      have hx := List.mem_range.mp hx
      have hi : x / m < k := Nat.div_lt_of_lt_mul (by rw [Nat.mul_comm]; omega)
      have q := List.all_eq_true.mp (h2 (x / m) hi) x
      refine q (List.mem_iff_getElem?.mpr ⟨x % m, ?_⟩)
      have hlt : x % m < m := Nat.mod_lt _ hm
      have hd : x / m * m + x % m = x := by rw [Nat.mul_comm]; exact Nat.div_add_mod x m
      rw [List.getElem?_take, if_pos hlt, List.getElem?_drop, hd, List.getElem?_range hx]
    show some (X.ok (kF as s) && He.tabsB (getT s) (tfOf X.tq) (kF as s)) = some true
    unfold Txt.ok
    rw [a1, a2, a3, a4, a5]
    rfl
theorem runEq_split3 {r : OpenRow} {q : Program} {as : (Addr → Option Obj) → List Addr} {X : Txt} {M m k : Nat} {loose : List PySem.Str} {w : World} (hm : 0 < m) (hk : Nat.ble X.fns.length (k * m) = true)
    (hA : ∀ os : OsState, (endF (stepQ (denQ tabQ) r.prog w) M r.prog w os).map (fun s => (looksF r.prog (boot_heap w.params) s.abs, seenQ q loose (importedModules r.prog.main.body) (fun s => xlAt q [] s && recOk r.toRowW.records s) s.abs, ob1 as X s)) = some (true, openGood q loose, true))
    (hB : ∀ (os : OsState) (i : Nat), i < k → (endF (stepQ (denQ tabQ) r.prog w) M r.prog w os).map (ob2 as X m i) = some true) : RunEq r q (hookR as X) (obR as X) M loose w := fun os => by
  have a := hA os
  have b := hB os
  revert a b
  generalize endF (stepQ (denQ tabQ) r.prog w) M r.prog w os = o
  intro a b
  cases o with
  | none => cases a
  | some s =>
    have a1 := Option.some.inj (show some _ = _ from a)
    have p1 := congrArg Prod.fst a1
    have p2 := congrArg (fun x => x.2.1) a1
    have p3 := congrArg (fun x => x.2.2) a1
    simp only at p1 p2 p3
    have c := ob_split (as := as) (X := X) (o := some s) hm hk (by show some (ob1 as X s) = _; rw [p3]) b
    have c1 : obR as X s = true := Option.some.inj c
    show some (_, _, obR as X s) = _
    rw [c1, p1, p2]
    rfl
end Rf

set_option Elab.async false
set_option linter.all false
set_option maxRecDepth 100000
set_option maxHeartbeats 0
namespace Rf
open PySem PySem.Spec PyProof.Rows L2
def b0 : SL := (.cons (.ret (.and (.blt (.isi .int) (.cons (.var 0) .nil)) (.not (.blt (.isi .bool) (.cons (.var 0) .nil))))) .nil)
def b1 : SL := (.cons (.ret (.and (.call 0 (.cons (.var 0) .nil)) (.cmp2 .lt .lt (.neg (.cst 0)) (.var 0) (.cst 0)))) .nil)
def b2 : SL := (.cons (.ret (.and (.call 0 (.cons (.var 0) .nil)) (.cmp2 .le .le (.var 1) (.var 0) (.var 2)))) .nil)
def b3 : SL := (.cons (.ret (.and (.blt (.isi .tup) (.cons (.var 0) .nil)) (.cmp .eq (.blt .len (.cons (.var 0) .nil)) (.cst 1)))) .nil)
def b4 : SL := (.cons (.ret (.blt .all (.cons (.lc (.cmp .lt (.var 1) (.var 2)) (.names [1, 2]) (.zip (.var 0) (.slc (.var 0) (.some (.lit (.int 1))) .none)) .none) .nil))) .nil)
def b5 : SL := (.cons (.iff (.or (.not (.call 1 (.cons (.var 0) .nil))) (.or (.and (.isn true (.var 1)) (.cmp .lt (.var 0) (.var 1))) (.and (.isn true (.var 2)) (.cmp .gt (.var 0) (.var 2))))) (.cons (.raise1 7 (.var 0)) .nil) .nil) .nil)
def b6 : SL := (.cons (.par [2, 3] (.cons (.blt .abs (.cons (.var 0) .nil)) (.cons (.blt .abs (.cons (.var 1) .nil)) .nil))) (.cons (.whl (.var 3) (.cons (.par [2, 3] (.cons (.var 3) (.cons (.bin .mod (.var 2) (.var 3)) .nil))) .nil)) (.cons (.ret (.var 2)) .nil)))
def b7 : SL := (.cons (.set 2 (.bin .mul (.call 6 (.cons (.var 0) (.cons (.var 1) .nil))) (.ife (.cmp .gt (.var 1) (.lit (.int 0))) (.lit (.int 1)) (.neg (.lit (.int 1)))))) (.cons (.ret (.tup (.cons (.bin .fdiv (.var 0) (.var 2)) (.cons (.bin .fdiv (.var 1) (.var 2)) .nil)))) .nil))
def b8 : SL := (.cons (.ret (.and (.call 3 (.cons (.var 0) .nil)) (.blt .all (.cons (.lc (.call 2 (.cons (.var 1) (.cons (.neg (.cst 2)) (.cons (.cst 2) .nil)))) (.name 1) (.seq (.var 0)) .none) .nil)))) .nil)
def b9 : SL := (.cons (.ret (.and (.call 3 (.cons (.var 0) .nil)) (.blt .all (.cons (.lc (.call 2 (.cons (.var 1) (.cons (.neg (.cst 3)) (.cons (.cst 3) .nil)))) (.name 1) (.seq (.var 0)) .none) .nil)))) .nil)
def b10 : SL := (.cons (.ret (.tup (.cons (.bin .sub (.idx (.var 1) (.lit (.int 0))) (.idx (.var 0) (.lit (.int 0)))) (.cons (.bin .sub (.idx (.var 1) (.lit (.int 1))) (.idx (.var 0) (.lit (.int 1)))) .nil)))) .nil)
def b11 : SL := (.cons (.ret (.bin .sub (.bin .mul (.idx (.var 0) (.lit (.int 0))) (.idx (.var 1) (.lit (.int 1)))) (.bin .mul (.idx (.var 0) (.lit (.int 1))) (.idx (.var 1) (.lit (.int 0)))))) .nil)
def b12 : SL := (.cons (.ret (.call 11 (.cons (.call 10 (.cons (.var 0) (.cons (.var 1) .nil))) (.cons (.call 10 (.cons (.var 0) (.cons (.var 2) .nil))) .nil)))) .nil)
def b13 : SL := (.cons (.iff (.not (.call 8 (.cons (.var 0) .nil))) (.cons (.raise0 1) .nil) .nil) .nil)
def b14 : SL := (.cons (.iff (.not (.call 9 (.cons (.var 0) .nil))) (.cons (.raise0 2) .nil) .nil) .nil)
def b15 : SL := (.cons (.set 1 (.lst .nil)) (.cons (.for_ (.name 2) (.seq (.var 0)) (.cons (.whl (.and (.cmp .gt (.blt .len (.cons (.var 1) .nil)) (.lit (.int 1))) (.cmp .le (.call 12 (.cons (.idx (.var 1) (.neg (.lit (.int 2)))) (.cons (.idx (.var 1) (.neg (.lit (.int 1)))) (.cons (.var 2) .nil)))) (.lit (.int 0)))) (.cons (.pop 1) .nil)) (.cons (.app 1 (.var 2)) .nil))) (.cons (.ret (.var 1)) .nil)))
def b16 : SL := (.cons (.set 1 (.blt .srtK (.cons (.var 0) .nil))) (.cons (.iff (.cmp .eq (.blt .len (.cons (.var 1) .nil)) (.lit (.int 1))) (.cons (.ret (.tup (.cons (.idx (.var 1) (.lit (.int 0))) .nil))) .nil) .nil) (.frz 1 (.cons (.par [2, 3] (.cons (.call 15 (.cons (.var 1) .nil)) (.cons (.call 15 (.cons (.blt .rev (.cons (.var 1) .nil)) .nil)) .nil))) (.cons (.ret (.blt .tuple (.cons (.lst (.star (.slc (.var 2) .none (.some (.neg (.lit (.int 1))))) (.star (.slc (.var 3) .none (.some (.neg (.lit (.int 1))))) .nil))) .nil))) .nil)))))
def b17 : SL := (.cons (.iff (.or (.not (.blt (.isi .tup) (.cons (.var 0) .nil))) (.not (.cmp2 .lt .le (.lit (.int 0)) (.blt .len (.cons (.var 0) .nil)) (.cst 4)))) (.cons (.ret (.lit (.bool false))) .nil) .nil) (.cons (.ret (.and (.blt .all (.cons (.lc (.call 8 (.cons (.var 1) .nil)) (.name 1) (.seq (.var 0)) .none) .nil)) (.call 4 (.cons (.var 0) .nil)))) .nil))
def b18 : SL := (.cons (.iff (.or (.not (.blt (.isi .tup) (.cons (.var 0) .nil))) (.not (.cmp2 .lt .le (.lit (.int 0)) (.blt .len (.cons (.var 0) .nil)) (.cst 4)))) (.cons (.ret (.lit (.bool false))) .nil) .nil) (.cons (.ret (.and (.blt .all (.cons (.lc (.call 8 (.cons (.var 1) .nil)) (.name 1) (.seq (.var 0)) .none) .nil)) (.cmp .eq (.call 16 (.cons (.var 0) .nil)) (.var 0)))) .nil))
def b19 : SL := (.cons (.iff (.not (.call 17 (.cons (.var 0) .nil))) (.cons (.raise0 3) .nil) .nil) .nil)
def b20 : SL := (.cons (.iff (.not (.call 18 (.cons (.var 0) .nil))) (.cons (.raise0 4) .nil) .nil) .nil)
def b21 : SL := (.cons (.iff (.or (.not (.blt (.isi .tup) (.cons (.var 0) .nil))) (.or (.cmp .ne (.blt .len (.cons (.var 0) .nil)) (.cst 7)) (.not (.blt .all (.cons (.lc (.call 0 (.cons (.var 1) .nil)) (.name 1) (.seq (.var 0)) .none) .nil))))) (.cons (.ret (.lit (.bool false))) .nil) .nil) (.cons (.ret (.cmp .inn (.call 23 (.cons (.var 0) .nil)) (.tup (.cons (.lit (.int 1)) (.cons (.neg (.lit (.int 1))) .nil))))) .nil))
def b22 : SL := (.cons (.ret (.and (.call 21 (.cons (.var 0) .nil)) (.blt .all (.cons (.lc (.call 2 (.cons (.var 1) (.cons (.neg (.cst 5)) (.cons (.cst 5) .nil)))) (.name 1) (.seq (.var 0)) .none) .nil)))) .nil)
def b23 : SL := (.cons (.ret (.bin .sub (.bin .mul (.idx (.var 0) (.lit (.int 0))) (.idx (.var 0) (.lit (.int 3)))) (.bin .mul (.idx (.var 0) (.lit (.int 1))) (.idx (.var 0) (.lit (.int 2)))))) .nil)
def b24 : SL := (.cons (.unp [2, 3, 4, 5, 6, 7] (.var 0)) (.cons (.ret (.tup (.cons (.bin .add (.bin .add (.bin .mul (.var 2) (.idx (.var 1) (.lit (.int 0)))) (.bin .mul (.var 3) (.idx (.var 1) (.lit (.int 1))))) (.var 6)) (.cons (.bin .add (.bin .add (.bin .mul (.var 4) (.idx (.var 1) (.lit (.int 0)))) (.bin .mul (.var 5) (.idx (.var 1) (.lit (.int 1))))) (.var 7)) .nil)))) .nil))
def b25 : SL := (.cons (.unp [2, 3, 4, 5] (.slc (.var 0) .none (.some (.lit (.int 4))))) (.cons (.ret (.tup (.cons (.bin .add (.bin .mul (.var 2) (.idx (.var 1) (.lit (.int 0)))) (.bin .mul (.var 3) (.idx (.var 1) (.lit (.int 1))))) (.cons (.bin .add (.bin .mul (.var 4) (.idx (.var 1) (.lit (.int 0)))) (.bin .mul (.var 5) (.idx (.var 1) (.lit (.int 1))))) .nil)))) .nil))
def b26 : SL := (.cons (.ret (.call 16 (.cons (.lc (.call 24 (.cons (.var 0) (.cons (.var 2) .nil))) (.name 2) (.seq (.var 1)) .none) .nil))) .nil)
def b27 : SL := (.cons (.par [3, 4] (.cons (.call 25 (.cons (.var 1) (.cons (.tup (.cons (.idx (.var 0) (.lit (.int 0))) (.cons (.idx (.var 0) (.lit (.int 2))) .nil))) .nil))) (.cons (.call 25 (.cons (.var 1) (.cons (.tup (.cons (.idx (.var 0) (.lit (.int 1))) (.cons (.idx (.var 0) (.lit (.int 3))) .nil))) .nil))) .nil))) (.cons (.set 2 (.call 24 (.cons (.var 1) (.cons (.slc (.var 0) (.some (.lit (.int 4))) .none) .nil)))) (.cons (.ret (.tup (.cons (.idx (.var 3) (.lit (.int 0))) (.cons (.idx (.var 4) (.lit (.int 0))) (.cons (.idx (.var 3) (.lit (.int 1))) (.cons (.idx (.var 4) (.lit (.int 1))) (.star (.var 2) .nil))))))) .nil)))
def b28 : SL := (.cons (.unp [4, 5, 6, 7, 8, 9] (.var 0)) (.cons (.set 1 (.call 23 (.cons (.var 0) .nil))) (.cons (.set 2 (.tup (.cons (.bin .mul (.var 7) (.var 1)) (.cons (.bin .mul (.neg (.var 5)) (.var 1)) (.cons (.bin .mul (.neg (.var 6)) (.var 1)) (.cons (.bin .mul (.var 4) (.var 1)) (.cons (.lit (.int 0)) (.cons (.lit (.int 0)) .nil)))))))) (.cons (.set 3 (.call 24 (.cons (.var 2) (.cons (.tup (.cons (.var 8) (.cons (.var 9) .nil))) .nil)))) (.cons (.ret (.tup (.star (.slc (.var 2) .none (.some (.lit (.int 4)))) (.cons (.neg (.idx (.var 3) (.lit (.int 0)))) (.cons (.neg (.idx (.var 3) (.lit (.int 1)))) .nil))))) .nil)))))
def b29 : SL := (.cons (.set 2 (.cst 10)) (.cons (.for_ (.name 3) (.rng1 (.blt .abs (.cons (.var 1) .nil))) (.cons (.set 2 (.call 27 (.cons (.var 2) (.cons (.ife (.cmp .gt (.var 1) (.lit (.int 0))) (.var 0) (.call 28 (.cons (.var 0) .nil))) .nil)))) .nil)) (.cons (.ret (.var 2)) .nil)))
def b30 : SL := (.cons (.set 1 (.var 0)) (.cons (.for_ (.name 2) (.rng2 (.lit (.int 1)) (.bin .add (.cst 9) (.lit (.int 1)))) (.cons (.iff (.cmp .eq (.var 1) (.cst 10)) (.cons (.ret (.var 2)) .nil) .nil) (.cons (.set 1 (.call 27 (.cons (.var 1) (.cons (.var 0) .nil)))) .nil))) (.cons (.ret (.lit .none)) .nil)))
def b31 : SL := (.cons (.par [4, 5] (.cons (.call 10 (.cons (.idx (.var 0) (.lit (.int 0))) (.cons (.idx (.var 0) (.lit (.int 1))) .nil))) (.cons (.call 10 (.cons (.idx (.var 0) (.lit (.int 0))) (.cons (.idx (.var 0) (.lit (.int 2))) .nil))) .nil))) (.cons (.par [6, 7] (.cons (.call 10 (.cons (.idx (.var 1) (.lit (.int 0))) (.cons (.idx (.var 1) (.lit (.int 1))) .nil))) (.cons (.call 10 (.cons (.idx (.var 1) (.lit (.int 0))) (.cons (.idx (.var 1) (.lit (.int 2))) .nil))) .nil))) (.cons (.par [8, 9] (.cons (.call 11 (.cons (.var 4) (.cons (.var 5) .nil))) (.cons (.lst .nil) .nil))) (.cons (.for_ (.name 2) (.rng1 (.lit (.int 2))) (.cons (.app 9 (.bin .sub (.bin .mul (.idx (.var 6) (.var 2)) (.idx (.var 5) (.lit (.int 1)))) (.bin .mul (.idx (.var 7) (.var 2)) (.idx (.var 4) (.lit (.int 1)))))) (.cons (.app 9 (.bin .sub (.bin .mul (.idx (.var 4) (.lit (.int 0))) (.idx (.var 7) (.var 2))) (.bin .mul (.idx (.var 5) (.lit (.int 0))) (.idx (.var 6) (.var 2))))) .nil))) (.cons (.iff (.not (.blt .all (.cons (.lc (.cmp .eq (.bin .mod (.var 14) (.var 8)) (.lit (.int 0))) (.name 14) (.seq (.var 9)) .none) .nil))) (.cons (.ret (.lit .none)) .nil) .nil) (.cons (.unp [10, 11, 12, 13] (.lc (.bin .fdiv (.var 14) (.var 8)) (.name 14) (.seq (.var 9)) .none)) (.cons (.iff (.cmp .nin (.bin .sub (.bin .mul (.var 10) (.var 13)) (.bin .mul (.var 11) (.var 12))) (.tup (.cons (.lit (.int 1)) (.cons (.neg (.lit (.int 1))) .nil)))) (.cons (.ret (.lit .none)) .nil) .nil) (.cons (.set 3 (.call 10 (.cons (.call 25 (.cons (.tup (.cons (.var 10) (.cons (.var 11) (.cons (.var 12) (.cons (.var 13) .nil))))) (.cons (.idx (.var 0) (.lit (.int 0))) .nil))) (.cons (.idx (.var 1) (.lit (.int 0))) .nil)))) (.cons (.ret (.tup (.cons (.var 10) (.cons (.var 11) (.cons (.var 12) (.cons (.var 13) (.star (.var 3) .nil))))))) .nil)))))))))
def b32 : SL := (.cons (.set 3 (.call 6 (.cons (.call 6 (.cons (.var 0) (.cons (.var 1) .nil))) (.cons (.var 2) .nil)))) (.cons (.set 4 (.ife (.or (.cmp .gt (.var 0) (.lit (.int 0))) (.and (.cmp .eq (.var 0) (.lit (.int 0))) (.cmp .gt (.var 1) (.lit (.int 0))))) (.lit (.int 1)) (.neg (.lit (.int 1))))) (.cons (.ret (.tup (.cons (.bin .fdiv (.bin .mul (.var 4) (.var 0)) (.var 3)) (.cons (.bin .fdiv (.bin .mul (.var 4) (.var 1)) (.var 3)) (.cons (.bin .fdiv (.bin .mul (.var 4) (.var 2)) (.var 3)) .nil))))) .nil)))
def b33 : SL := (.cons (.unp [4, 5, 6, 7, 8, 9] (.var 0)) (.cons (.set 1 (.tup (.cons (.tup (.cons (.bin .sub (.var 4) (.lit (.int 1))) (.cons (.var 5) (.cons (.neg (.var 8)) .nil)))) (.cons (.tup (.cons (.var 6) (.cons (.bin .sub (.var 7) (.lit (.int 1))) (.cons (.neg (.var 9)) .nil)))) .nil)))) (.cons (.set 2 (.bin .sub (.bin .mul (.idx (.idx (.var 1) (.lit (.int 0))) (.lit (.int 0))) (.idx (.idx (.var 1) (.lit (.int 1))) (.lit (.int 1)))) (.bin .mul (.idx (.idx (.var 1) (.lit (.int 0))) (.lit (.int 1))) (.idx (.idx (.var 1) (.lit (.int 1))) (.lit (.int 0)))))) (.cons (.iff (.cmp .ne (.var 2) (.lit (.int 0))) (.cons (.set 10 (.bin .sub (.bin .mul (.idx (.idx (.var 1) (.lit (.int 0))) (.lit (.int 2))) (.idx (.idx (.var 1) (.lit (.int 1))) (.lit (.int 1)))) (.bin .mul (.idx (.idx (.var 1) (.lit (.int 0))) (.lit (.int 1))) (.idx (.idx (.var 1) (.lit (.int 1))) (.lit (.int 2)))))) (.cons (.set 11 (.bin .sub (.bin .mul (.idx (.idx (.var 1) (.lit (.int 0))) (.lit (.int 0))) (.idx (.idx (.var 1) (.lit (.int 1))) (.lit (.int 2)))) (.bin .mul (.idx (.idx (.var 1) (.lit (.int 0))) (.lit (.int 2))) (.idx (.idx (.var 1) (.lit (.int 1))) (.lit (.int 0)))))) (.cons (.ret (.tup (.cons (.cst 14) (.cons (.tup (.cons (.call 7 (.cons (.var 10) (.cons (.var 2) .nil))) (.cons (.call 7 (.cons (.var 11) (.cons (.var 2) .nil))) .nil))) .nil)))) .nil))) .nil) (.cons (.set 3 (.lc (.var 13) (.name 13) (.seq (.var 1)) (.some (.cmp .ne (.slc (.var 13) .none (.some (.lit (.int 2)))) (.tup (.cons (.lit (.int 0)) (.cons (.lit (.int 0)) .nil))))))) (.cons (.iff (.blt .any (.cons (.lc (.and (.cmp .eq (.slc (.var 13) .none (.some (.lit (.int 2)))) (.tup (.cons (.lit (.int 0)) (.cons (.lit (.int 0)) .nil)))) (.cmp .ne (.idx (.var 13) (.lit (.int 2))) (.lit (.int 0)))) (.name 13) (.seq (.var 1)) .none) .nil)) (.cons (.ret (.tup (.cons (.cst 13) .nil))) .nil) .nil) (.cons (.iff (.cmp .eq (.var 3) (.lst .nil)) (.cons (.ret (.tup (.cons (.cst 16) .nil))) .nil) .nil) (.cons (.par [12, 11] (.cons (.idx (.var 3) (.lit (.int 0))) (.cons (.idx (.var 3) (.neg (.lit (.int 1)))) .nil))) (.cons (.iff (.or (.cmp .ne (.bin .mul (.idx (.var 12) (.lit (.int 0))) (.idx (.var 11) (.lit (.int 2)))) (.bin .mul (.idx (.var 11) (.lit (.int 0))) (.idx (.var 12) (.lit (.int 2))))) (.cmp .ne (.bin .mul (.idx (.var 12) (.lit (.int 1))) (.idx (.var 11) (.lit (.int 2)))) (.bin .mul (.idx (.var 11) (.lit (.int 1))) (.idx (.var 12) (.lit (.int 2)))))) (.cons (.ret (.tup (.cons (.cst 13) .nil))) .nil) .nil) (.cons (.ret (.tup (.cons (.cst 15) (.cons (.call 32 (.star (.var 12) .nil)) .nil)))) .nil))))))))))
def b34 : SL := (.cons (.iff (.or (.not (.blt (.isi .tup) (.cons (.var 0) .nil))) (.or (.cmp .ne (.blt .len (.cons (.var 0) .nil)) (.cst 7)) (.not (.blt .all (.cons (.lc (.call 0 (.cons (.var 1) .nil)) (.name 1) (.seq (.var 0)) .none) .nil))))) (.cons (.ret (.lit (.bool false))) .nil) .nil) (.cons (.iff (.or (.cmp .inn (.var 0) (.tup (.cons (.cst 11) (.cons (.cst 12) .nil)))) (.cmp .eq (.slc (.var 0) .none (.some (.lit (.int 4)))) (.slc (.cst 10) .none (.some (.lit (.int 4)))))) (.cons (.ret (.lit (.bool true))) .nil) .nil) (.cons (.ret (.and (.cmp .eq (.idx (.var 0) (.lit (.int 0))) (.lit (.int 1))) (.cmp .eq (.slc (.var 0) (.some (.lit (.int 2))) .none) (.slc (.cst 10) (.some (.lit (.int 2))) .none)))) .nil)))
def b35 : SL := (.cons (.iff (.or (.not (.blt (.isi .tup) (.cons (.var 1) .nil))) (.not (.blt .all (.cons (.lc (.call 34 (.cons (.var 3) .nil)) (.name 3) (.seq (.var 1)) .none) .nil)))) (.cons (.ret (.lit (.bool false))) .nil) .nil) (.cons (.set 2 (.cst 10)) (.cons (.for_ (.name 3) (.seq (.var 1)) (.cons (.set 2 (.call 27 (.cons (.var 2) (.cons (.var 3) .nil)))) .nil)) (.cons (.ret (.cmp .eq (.var 2) (.var 0))) .nil))))
def b36 : SL := (.cons (.ret (.tup (.cons (.lit (.int 1)) (.cons (.var 0) (.cons (.lit (.int 0)) (.cons (.lit (.int 1)) (.cons (.lit (.int 0)) (.cons (.lit (.int 0)) .nil)))))))) .nil)
def b37 : SL := (.cons (.unp [2, 3, 4, 5] (.slc (.var 0) .none (.some (.lit (.int 4))))) (.cons (.set 1 (.ife (.cmp .eq (.var 2) (.lit (.int 1))) (.lst .nil) (.lst (.cons (.cst 11) (.cons (.cst 11) .nil))))) (.cons (.iff (.cmp .eq (.bin .mul (.var 2) (.var 5)) (.lit (.int 1))) (.cons (.ret (.lst (.cons (.call 36 (.cons (.bin .mul (.var 2) (.var 3)) .nil)) (.star (.var 1) .nil)))) .nil) .nil) (.cons (.ret (.lst (.cons (.cst 12) (.cons (.call 36 (.cons (.bin .mul (.neg (.var 2)) (.var 3)) .nil)) (.star (.var 1) .nil))))) .nil))))
def b38 : SL := (.cons (.par [4, 5] (.cons (.tup (.star (.slc (.var 0) .none (.some (.lit (.int 4)))) (.cons (.lit (.int 0)) (.cons (.lit (.int 0)) .nil)))) (.cons (.lst .nil) .nil))) (.cons (.whl (.cmp .ne (.idx (.var 4) (.lit (.int 2))) (.lit (.int 0))) (.cons (.set 6 (.neg (.bin .fdiv (.idx (.var 4) (.lit (.int 0))) (.idx (.var 4) (.lit (.int 2)))))) (.cons (.set 4 (.call 27 (.cons (.call 27 (.cons (.var 4) (.cons (.call 36 (.cons (.var 6) .nil)) .nil))) (.cons (.cst 11) .nil)))) (.cons (.app 5 (.lst (.cons (.cst 11) (.cons (.cst 11) (.cons (.cst 11) (.cons (.call 36 (.cons (.neg (.var 6)) .nil)) .nil)))))) .nil)))) (.cons (.set 1 (.call 37 (.cons (.var 4) .nil))) (.cons (.for_ (.name 2) (.seq (.blt .rev (.cons (.var 5) .nil))) (.cons (.ext 1 (.var 2)) .nil)) (.cons (.set 3 (.tup (.cons (.lit (.int 1)) (.cons (.lit (.int 0)) (.cons (.lit (.int 0)) (.cons (.lit (.int 1)) (.cons (.idx (.var 0) (.lit (.int 4))) (.cons (.idx (.var 0) (.lit (.int 5))) .nil)))))))) (.cons (.ret (.blt .tuple (.cons (.lc (.var 7) (.name 7) (.seq (.lst (.star (.var 1) (.cons (.var 3) .nil)))) (.some (.cmp .ne (.var 7) (.cst 10)))) .nil))) .nil))))))
def b39 : SL := (.cons (.iff (.not (.call 22 (.cons (.var 0) .nil))) (.cons (.raise0 5) .nil) .nil) .nil)
def b40 : SL := (.cons (.iff (.not (.call 22 (.cons (.var 0) .nil))) (.cons (.raise1 8 (.cst 5)) .nil) .nil) (.cons (.ret (.var 0)) .nil))
def b41 : SL := (.cons (.iff (.or (.not (.blt (.isi .tup) (.cons (.var 0) .nil))) (.or (.cmp .ne (.blt .len (.cons (.var 0) .nil)) (.cst 8)) (.not (.blt .all (.cons (.lc (.call 8 (.cons (.var 1) .nil)) (.name 1) (.seq (.var 0)) .none) .nil))))) (.cons (.raise0 1) .nil) .nil) .nil)
def b42 : SL := (.cons (.expr (.call 39 (.cons (.var 0) .nil))) (.cons (.ret (.call 23 (.cons (.var 0) .nil))) .nil))
def b43 : SL := (.cons (.expr (.call 39 (.cons (.var 0) .nil))) (.cons (.expr (.call 13 (.cons (.var 1) .nil))) (.cons (.ret (.call 24 (.cons (.var 0) (.cons (.var 1) .nil)))) .nil)))
def b44 : SL := (.cons (.expr (.call 39 (.cons (.var 0) .nil))) (.cons (.expr (.call 14 (.cons (.var 1) .nil))) (.cons (.ret (.call 25 (.cons (.var 0) (.cons (.var 1) .nil)))) .nil)))
def b45 : SL := (.cons (.expr (.call 39 (.cons (.var 0) .nil))) (.cons (.expr (.call 19 (.cons (.var 1) .nil))) (.cons (.ret (.blt .tuple (.cons (.blt .sorted (.cons (.lc (.call 24 (.cons (.var 0) (.cons (.var 2) .nil))) (.name 2) (.seq (.var 1)) .none) .nil)) .nil))) .nil)))
def b46 : SL := (.cons (.expr (.call 39 (.cons (.var 0) .nil))) (.cons (.expr (.call 20 (.cons (.var 1) .nil))) (.cons (.ret (.call 26 (.cons (.var 0) (.cons (.var 1) .nil)))) .nil)))
def b47 : SL := (.cons (.expr (.call 39 (.cons (.var 0) .nil))) (.cons (.expr (.call 39 (.cons (.var 1) .nil))) (.cons (.ret (.call 40 (.cons (.call 27 (.cons (.var 0) (.cons (.var 1) .nil))) .nil))) .nil)))
def b48 : SL := (.cons (.expr (.call 39 (.cons (.var 0) .nil))) (.cons (.ret (.call 40 (.cons (.call 28 (.cons (.var 0) .nil)) .nil))) .nil))
def b49 : SL := (.cons (.expr (.call 39 (.cons (.var 0) .nil))) (.cons (.expr (.call 5 (.cons (.var 1) (.cons (.neg (.cst 6)) (.cons (.cst 6) .nil))))) (.cons (.ret (.call 40 (.cons (.call 29 (.cons (.var 0) (.cons (.var 1) .nil))) .nil))) .nil)))
def b50 : SL := (.cons (.expr (.call 39 (.cons (.var 0) .nil))) (.cons (.ret (.call 30 (.cons (.var 0) .nil))) .nil))
def b51 : SL := (.cons (.expr (.call 41 (.cons (.var 0) .nil))) (.cons (.expr (.call 41 (.cons (.var 1) .nil))) (.cons (.iff (.cmp .eq (.call 11 (.cons (.call 10 (.cons (.idx (.var 0) (.lit (.int 0))) (.cons (.idx (.var 0) (.lit (.int 1))) .nil))) (.cons (.call 10 (.cons (.idx (.var 0) (.lit (.int 0))) (.cons (.idx (.var 0) (.lit (.int 2))) .nil))) .nil))) (.lit (.int 0))) (.cons (.raise0 6) .nil) .nil) (.cons (.set 2 (.call 31 (.cons (.var 0) (.cons (.var 1) .nil)))) (.cons (.ret (.ife (.isn false (.var 2)) (.lit .none) (.call 40 (.cons (.var 2) .nil)))) .nil)))))
def b52 : SL := (.cons (.expr (.call 39 (.cons (.var 0) .nil))) (.cons (.ret (.call 33 (.cons (.var 0) .nil))) .nil))
def b53 : SL := (.cons (.expr (.call 39 (.cons (.var 0) .nil))) (.cons (.ret (.call 38 (.cons (.var 0) .nil))) .nil))
def b54 : SL := (.cons (.expr (.call 39 (.cons (.var 0) .nil))) (.cons (.ret (.call 35 (.cons (.var 0) (.cons (.var 1) .nil)))) .nil))
def b55 : SL := (.cons (.expr (.call 20 (.cons (.var 0) .nil))) (.cons (.expr (.call 20 (.cons (.var 1) .nil))) (.cons (.expr (.call 39 (.cons (.var 2) .nil))) (.cons (.ret (.cmp .eq (.call 26 (.cons (.var 2) (.cons (.var 0) .nil))) (.var 1))) .nil))))
def b56 : SL := diceT
def b57 : SL := rollT
def b58 : SL := (.cons (.ret (.idx (.var 1) (.call 57 (.cons (.var 0) (.cons (.blt .len (.cons (.var 1) .nil)) .nil))))) .nil)
def b59 : SL := (.cons (.tryc false (.callT 0) (.cons 5 none (.lit (.str (Str.ofString "map"))) (.cons 1 none (.lit (.str (Str.ofString "point"))) (.cons 2 none (.lit (.str (Str.ofString "step"))) (.cons 3 none (.lit (.str (Str.ofString "lot"))) (.cons 4 none (.lit (.str (Str.ofString "shape"))) (.cons 6 none (.lit (.str (Str.ofString "operation"))) (.cons 7 (some 1) (.bin .add (.lit (.str (Str.ofString "number "))) (.blt .repr (.cons (.err 1) .nil))) (.cons 8 (some 1) (.bin .add (.lit (.str (Str.ofString "many "))) (.blt .repr (.cons (.err 1) .nil))) .nil))))))))) (.cons (.ret (.lit (.str (Str.ofString "fine")))) .nil))
def b60 : SL := (.cons (.set 4 (.lst .nil)) (.cons (.for_ (.name 5) (.seq (.tup (.cons (.fnv 42) (.cons (.fnv 48) (.cons (.fnv 50) (.cons (.fnv 52) (.cons (.fnv 53) .nil))))))) (.cons (.app 4 (.thunk 59 (.callv 5 (.cons (.var 0) .nil)))) .nil)) (.cons (.app 4 (.thunk 59 (.call 54 (.cons (.var 0) (.cons (.lit .none) .nil))))) (.cons (.app 4 (.thunk 59 (.call 47 (.cons (.var 0) (.cons (.var 1) .nil))))) (.cons (.for_ (.name 5) (.seq (.tup (.cons (.fnv 43) (.cons (.fnv 44) (.cons (.fnv 45) (.cons (.fnv 46) .nil)))))) (.cons (.app 4 (.thunk 59 (.callv 5 (.cons (.var 0) (.cons (.var 2) .nil))))) .nil)) (.cons (.app 4 (.thunk 59 (.call 49 (.cons (.var 0) (.cons (.var 3) .nil))))) (.cons (.ret (.var 4)) .nil)))))))
def b61 : SL := (.cons (.set 1 (.lst (.cons (.lit .none) (.cons (.lit (.int 0)) (.cons (.tup (.cons (.lit (.int 1)) (.cons (.lit (.int 0)) (.cons (.lit (.int 0)) (.cons (.lit (.int 1)) .nil))))) (.cons (.tup (.cons (.lit (.int 1)) (.cons (.lit (.int 0)) (.cons (.lit (.int 0)) (.cons (.lit (.int 1)) (.cons (.lit (.int 0)) (.cons (.lit (.int 0)) (.cons (.lit (.int 0)) .nil)))))))) (.cons (.lst (.cons (.lit (.int 1)) (.cons (.lit (.int 0)) (.cons (.lit (.int 0)) (.cons (.lit (.int 1)) (.cons (.lit (.int 0)) (.cons (.lit (.int 0)) .nil))))))) (.cons (.tup (.cons (.lit (.int 2)) (.cons (.lit (.int 0)) (.cons (.lit (.int 0)) (.cons (.lit (.int 1)) (.cons (.lit (.int 0)) (.cons (.lit (.int 0)) .nil))))))) (.cons (.lit (.dict [])) .nil))))))))) (.cons (.app 1 (.tup (.cons (.lit (.int 0)) (.cons (.lit (.int 0)) (.cons (.lit (.int 0)) (.cons (.lit (.int 0)) (.cons (.lit (.int 0)) (.cons (.lit (.int 0)) .nil)))))))) (.cons (.set 1 (.bin .add (.var 1) (.lst (.cons (.tup (.cons (.lit (.int 1)) (.cons (.lit (.int 0)) (.cons (.lit (.int 0)) (.cons (.lit (.int 1)) (.cons (.lit (.int 10001)) (.cons (.lit (.int 0)) .nil))))))) (.cons (.tup (.cons (.lit (.bool true)) (.cons (.lit (.int 0)) (.cons (.lit (.int 0)) (.cons (.lit (.int 1)) (.cons (.lit (.int 0)) (.cons (.lit (.int 0)) .nil))))))) (.cons (.tup (.cons (.lit (.int 1)) (.cons (.lit (.int 0)) (.cons (.lit (.int 0)) (.cons (.lit (.int 1)) (.cons (.lit .none) (.cons (.lit (.int 0)) .nil))))))) (.cons (.lit (.str (Str.ofString "map"))) (.cons (.tup (.cons (.lit (.int 1)) (.cons (.lit (.int 1)) (.cons (.lit (.int 1)) (.cons (.lit (.int 1)) (.cons (.lit (.int 0)) (.cons (.lit (.int 0)) .nil))))))) .nil)))))))) (.frz 1 (.cons (.unp [10, 11] (.tup (.cons (.call 58 (.cons (.var 0) (.cons (.var 1) .nil))) (.cons (.call 58 (.cons (.var 0) (.cons (.var 1) .nil))) .nil)))) (.kill 1 (.cons (.set 2 (.call 58 (.cons (.var 0) (.cons (.lst (.cons (.lit .none) (.cons (.lit (.int 0)) (.cons (.tup (.cons (.lit (.int 1)) .nil)) (.cons (.lst (.cons (.lit (.int 0)) (.cons (.lit (.int 0)) .nil))) (.cons (.tup (.cons (.lit (.int 0)) (.cons (.lit (.int 2001)) .nil))) (.cons (.tup (.cons (.lit (.int 0)) (.cons (.lit (.bool true)) .nil))) (.cons (.tup (.cons (.lit (.int 0)) (.cons (.lit (.str (Str.ofString "1"))) .nil))) (.cons (.lit (.dict [])) (.cons (.lit (.str (Str.ofString "00"))) (.cons (.tup (.cons (.lit .none) (.cons (.lit (.int 0)) .nil))) (.cons (.tup (.cons (.neg (.bin .pow (.lit (.int 10)) (.lit (.int 60)))) (.cons (.lit (.int 0)) .nil))) .nil)))))))))))) .nil)))) (.cons (.set 3 (.call 58 (.cons (.var 0) (.cons (.lst (.cons (.lit .none) (.cons (.neg (.lit (.int 21))) (.cons (.lit (.int 21)) (.cons (.lit (.bool true)) (.cons (.lit (.str (Str.ofString "1"))) (.cons (.tup (.cons (.lit (.int 1)) .nil)) (.cons (.bin .pow (.lit (.int 10)) (.lit (.int 60))) .nil)))))))) .nil)))) (.cons (.set 4 (.tup (.cons (.lit (.int 1)) (.cons (.lit (.int 1)) (.cons (.lit (.int 0)) (.cons (.lit (.int 1)) (.cons (.lit (.int 2)) (.cons (.lit (.int 3)) .nil)))))))) (.cons (.iff (.cmp .ne (.call 60 (.cons (.var 10) (.cons (.var 11) (.cons (.var 2) (.cons (.var 3) .nil))))) (.bin .mul (.lst (.cons (.lit (.str (Str.ofString "map"))) .nil)) (.lit (.int 12)))) (.cons (.ret (.lit (.bool false))) .nil) .nil) (.cons (.set 5 (.bin .add (.bin .mul (.lst (.cons (.lit (.str (Str.ofString "fine"))) .nil)) (.lit (.int 6))) (.lst (.cons (.lit (.str (Str.ofString "map"))) (.cons (.lit (.str (Str.ofString "point"))) (.cons (.lit (.str (Str.ofString "step"))) (.cons (.lit (.str (Str.ofString "lot"))) (.cons (.lit (.str (Str.ofString "shape"))) (.cons (.bin .add (.lit (.str (Str.ofString "number "))) (.blt .repr (.cons (.var 3) .nil))) .nil))))))))) (.cons (.iff (.cmp .ne (.call 60 (.cons (.var 4) (.cons (.var 11) (.cons (.var 2) (.cons (.var 3) .nil))))) (.var 5)) (.cons (.ret (.lit (.bool false))) .nil) .nil) (.kill 3 (.kill 4 (.kill 5 (.kill 11 (.cons (.set 6 (.tup (.cons (.tup (.cons (.lit (.int 0)) (.cons (.lit (.int 0)) .nil))) (.cons (.tup (.cons (.lit (.int 1)) (.cons (.lit (.int 0)) .nil))) (.cons (.tup (.cons (.lit (.int 0)) (.cons (.lit (.int 1)) .nil))) .nil))))) (.cons (.set 7 (.call 58 (.cons (.var 0) (.cons (.lst (.cons (.lit .none) (.cons (.tup .nil) (.cons (.bin .mul (.tup (.cons (.tup (.cons (.lit (.int 0)) (.cons (.lit (.int 0)) .nil))) .nil)) (.lit (.int 2))) (.cons (.bin .mul (.lst (.cons (.tup (.cons (.lit (.int 0)) (.cons (.lit (.int 0)) .nil))) .nil)) (.lit (.int 3))) (.cons (.tup (.cons (.tup (.cons (.lit (.int 0)) (.cons (.lit (.int 0)) .nil))) (.cons (.tup (.cons (.lit (.int 1)) (.cons (.lit (.int 0)) .nil))) (.cons (.tup (.cons (.lit (.int 0)) .nil)) .nil)))) .nil)))))) .nil)))) (.cons (.set 8 (.call 58 (.cons (.var 0) (.cons (.lst (.cons (.tup (.cons (.tup (.cons (.lit (.int 0)) (.cons (.lit (.int 0)) .nil))) (.cons (.tup (.cons (.lit (.int 1)) (.cons (.lit (.int 1)) .nil))) (.cons (.tup (.cons (.lit (.int 2)) (.cons (.lit (.int 2)) .nil))) .nil)))) (.cons (.bin .mul (.tup (.cons (.tup (.cons (.lit (.int 0)) (.cons (.lit (.int 0)) .nil))) .nil)) (.lit (.int 3))) (.cons (.tup (.cons (.tup (.cons (.lit (.int 5)) (.cons (.lit (.int 5)) .nil))) (.cons (.tup (.cons (.lit (.int 5)) (.cons (.lit (.int 5)) .nil))) (.cons (.tup (.cons (.lit (.int 1)) (.cons (.lit (.int 0)) .nil))) .nil)))) .nil)))) .nil)))) (.kill 0 (.cons (.set 9 (.lst (.cons (.thunk 59 (.call 51 (.cons (.var 7) (.cons (.var 7) .nil)))) (.cons (.call 62 (.cons (.var 6) (.cons (.var 7) .nil))) (.cons (.call 62 (.cons (.var 8) (.cons (.var 7) .nil))) .nil))))) (.kill 7 (.cons (.app 9 (.call 62 (.cons (.var 8) (.cons (.var 6) .nil)))) (.kill 8 (.cons (.iff (.cmp .ne (.var 9) (.bin .add (.bin .mul (.lst (.cons (.lit (.str (Str.ofString "point"))) .nil)) (.lit (.int 3))) (.lst (.cons (.lit (.str (Str.ofString "operation"))) .nil)))) (.cons (.ret (.lit (.bool false))) .nil) .nil) (.kill 9 (.cons (.set 9 (.lst (.cons (.thunk 59 (.call 55 (.cons (.var 2) (.cons (.var 2) (.cons (.var 10) .nil))))) .nil))) (.cons (.app 9 (.thunk 59 (.call 55 (.cons (.slc (.var 6) .none (.some (.lit (.int 1)))) (.cons (.var 2) (.cons (.var 10) .nil)))))) (.kill 2 (.cons (.app 9 (.thunk 59 (.call 55 (.cons (.slc (.var 6) .none (.some (.lit (.int 1)))) (.cons (.slc (.var 6) .none (.some (.lit (.int 1)))) (.cons (.var 10) .nil)))))) (.kill 6 (.kill 10 (.cons (.ret (.cmp .eq (.var 9) (.lst (.cons (.lit (.str (Str.ofString "shape"))) (.cons (.lit (.str (Str.ofString "shape"))) (.cons (.lit (.str (Str.ofString "map"))) .nil)))))) .nil)))))))))))))))))))))))))))))))))
def b62 : SL := (.cons (.ret (.thunk 59 (.call 51 (.cons (.var 0) (.cons (.var 1) .nil))))) .nil)
def b63 : SL := (.cons (.for_ (.name 1) (.rng1 (.blt .max2 (.cons (.lit (.int 1)) (.cons (.blt .min2 (.cons (.lit (.int 5)) (.cons (.blt .len (.cons (.var 0) .nil)) .nil))) .nil)))) (.cons (.set 3 (.call 56 (.cons (.var 0) (.cons (.var 1) .nil)))) (.cons (.iff (.or (.not (.call 61 (.cons (.var 3) .nil))) (.not (.call 61 (.cons (.var 3) .nil)))) (.cons (.ret (.lit (.bool false))) .nil) .nil) .nil))) (.kill 0 (.kill 1 (.kill 2 (.kill 3 (.kill 4 (.kill 5 (.cons (.unp [4, 5] (.tup (.cons (.tup (.cons (.lit (.int 1)) (.cons (.lit (.int 0)) (.cons (.lit (.int 0)) (.cons (.lit (.int 1)) (.cons (.lit (.int 10000)) (.cons (.lit (.int 0)) .nil))))))) (.cons (.tup (.cons (.lit (.int 1)) (.cons (.lit (.int 0)) (.cons (.lit (.int 0)) (.cons (.lit (.int 1)) (.cons (.lit (.int 1)) (.cons (.lit (.int 0)) .nil))))))) .nil)))) (.cons (.set 2 (.lst (.cons (.thunk 59 (.call 47 (.cons (.var 4) (.cons (.var 5) .nil)))) .nil))) (.kill 5 (.cons (.app 2 (.thunk 59 (.call 49 (.cons (.var 4) (.cons (.neg (.lit (.int 2))) .nil))))) (.kill 4 (.cons (.app 2 (.thunk 59 (.call 48 (.cons (.tup (.cons (.lit (.int 1)) (.cons (.lit (.int 10000)) (.cons (.lit (.int 0)) (.cons (.lit (.int 1)) (.cons (.lit (.int 0)) (.cons (.lit (.int 2)) .nil))))))) .nil)))) (.cons (.ret (.and (.cmp .eq (.var 2) (.bin .mul (.lst (.cons (.lit (.str (Str.ofString "many 10000"))) .nil)) (.lit (.int 3)))) (.cmp .eq (.call 62 (.cons (.tup (.cons (.tup (.cons (.lit (.int 0)) (.cons (.lit (.int 0)) .nil))) (.cons (.tup (.cons (.lit (.int 1)) (.cons (.lit (.int 0)) .nil))) (.cons (.tup (.cons (.lit (.int 0)) (.cons (.lit (.int 1)) .nil))) .nil)))) (.cons (.tup (.cons (.tup (.cons (.lit (.int 0)) (.cons (.lit (.int 0)) .nil))) (.cons (.tup (.cons (.lit (.int 1)) (.cons (.lit (.int 0)) .nil))) (.cons (.tup (.cons (.lit (.int 0)) (.cons (.neg (.lit (.int 1))) .nil))) .nil)))) .nil))) (.lit (.str (Str.ofString "fine")))))) .nil))))))))))))))
def tDefs0 : List (Def) := [.body 1 1 b0,
  .body 1 1 b1,
  .body 3 3 b2,
  .body 1 1 b3,
  .body 1 3 b4,
  .body 3 3 b5,
  .body 2 4 b6,
  .body 2 3 b7,
  .body 1 2 b8,
  .body 1 2 b9,
  .body 2 2 b10,
  .body 2 2 b11,
  .body 3 3 b12,
  .body 1 1 b13,
  .body 1 1 b14,
  .body 1 3 b15,
  .body 1 5 b16,
  .body 1 2 b17,
  .body 1 2 b18,
  .body 1 1 b19,
  .body 1 1 b20,
  .body 1 2 b21,
  .body 1 2 b22,
  .body 1 1 b23,
  .body 2 8 b24]
def tDefs1 : List (Def) := [.body 2 6 b25,
  .body 2 3 b26,
  .body 2 5 b27,
  .body 1 10 b28,
  .body 2 4 b29,
  .body 1 3 b30,
  .body 2 15 b31,
  .body 3 5 b32,
  .body 1 14 b33,
  .body 1 2 b34,
  .body 2 4 b35,
  .body 1 1 b36,
  .body 1 6 b37,
  .body 1 8 b38,
  .body 1 1 b39,
  .body 1 1 b40,
  .body 1 2 b41,
  .body 1 1 b42,
  .body 2 2 b43,
  .body 2 2 b44,
  .body 2 3 b45,
  .body 2 2 b46,
  .body 2 2 b47,
  .body 1 1 b48,
  .body 2 2 b49]
def tDefs2 : List (Def) := [.body 1 1 b50,
  .body 2 3 b51,
  .body 1 1 b52,
  .body 1 1 b53,
  .body 2 2 b54,
  .body 3 3 b55,
  .dice 4 b56,
  .roll 5 b57,
  .body 2 2 b58,
  .thunk 2 b59,
  .body 4 6 b60,
  .body 1 12 b61,
  .body 2 2 b62,
  .body 1 6 b63]
def tDefs : List (Def) := tDefs0 ++ tDefs1 ++ tDefs2
def tInfo0 : List (DfI) := [⟨Str.ofString "is_whole", [Str.ofString "value"], [Str.ofString "value"], false, none⟩,
  ⟨Str.ofString "is_near", [Str.ofString "value"], [Str.ofString "value"], false, none⟩,
  ⟨Str.ofString "is_within", [Str.ofString "value", Str.ofString "least", Str.ofString "most"], [Str.ofString "value", Str.ofString "least", Str.ofString "most"], false, none⟩,
  ⟨Str.ofString "is_pair", [Str.ofString "value"], [Str.ofString "value"], false, none⟩,
  ⟨Str.ofString "is_ascending", [Str.ofString "items", Str.ofString "one", Str.ofString "other"], [Str.ofString "items"], false, none⟩,
  ⟨Str.ofString "require_number", [Str.ofString "value", Str.ofString "least", Str.ofString "most"], [Str.ofString "value", Str.ofString "least", Str.ofString "most"], false, none⟩,
  ⟨Str.ofString "common_divisor", [Str.ofString "one", Str.ofString "other", Str.ofString "left", Str.ofString "right"], [Str.ofString "one", Str.ofString "other"], false, none⟩,
  ⟨Str.ofString "fraction", [Str.ofString "top", Str.ofString "bottom", Str.ofString "shared"], [Str.ofString "top", Str.ofString "bottom"], false, none⟩,
  ⟨Str.ofString "is_point_in", [Str.ofString "value", Str.ofString "number"], [Str.ofString "value"], false, none⟩,
  ⟨Str.ofString "is_step_in", [Str.ofString "value", Str.ofString "number"], [Str.ofString "value"], false, none⟩,
  ⟨Str.ofString "step_in", [Str.ofString "a", Str.ofString "b"], [Str.ofString "a", Str.ofString "b"], false, none⟩,
  ⟨Str.ofString "cross_in", [Str.ofString "one", Str.ofString "other"], [Str.ofString "one", Str.ofString "other"], false, none⟩,
  ⟨Str.ofString "signed_in", [Str.ofString "a", Str.ofString "b", Str.ofString "c"], [Str.ofString "a", Str.ofString "b", Str.ofString "c"], false, none⟩,
  ⟨Str.ofString "require_point", [Str.ofString "value"], [Str.ofString "value"], false, none⟩,
  ⟨Str.ofString "require_step", [Str.ofString "value"], [Str.ofString "value"], false, none⟩,
  ⟨Str.ofString "half_hull", [Str.ofString "points", Str.ofString "found", Str.ofString "point"], [Str.ofString "points"], false, none⟩,
  ⟨Str.ofString "hull_in", [Str.ofString "points", Str.ofString "row", Str.ofString "lower", Str.ofString "upper", Str.ofString "point"], [Str.ofString "points"], false, none⟩,
  ⟨Str.ofString "is_lot_in", [Str.ofString "value", Str.ofString "point"], [Str.ofString "value"], false, none⟩,
  ⟨Str.ofString "is_shape_in", [Str.ofString "value", Str.ofString "point"], [Str.ofString "value"], false, none⟩,
  ⟨Str.ofString "require_lot", [Str.ofString "value"], [Str.ofString "value"], false, none⟩,
  ⟨Str.ofString "require_shape", [Str.ofString "value"], [Str.ofString "value"], false, none⟩,
  ⟨Str.ofString "is_far_map", [Str.ofString "value", Str.ofString "entry"], [Str.ofString "value"], false, none⟩,
  ⟨Str.ofString "is_map_in", [Str.ofString "value", Str.ofString "entry"], [Str.ofString "value"], false, none⟩,
  ⟨Str.ofString "sense_in", [Str.ofString "whole_map"], [Str.ofString "whole_map"], false, none⟩,
  ⟨Str.ofString "mapped_in", [Str.ofString "whole_map", Str.ofString "point", Str.ofString "a", Str.ofString "b", Str.ofString "c", Str.ofString "d", Str.ofString "e", Str.ofString "f"], [Str.ofString "whole_map", Str.ofString "point"], false, none⟩]
def tInfo1 : List (DfI) := [⟨Str.ofString "step_mapped_in", [Str.ofString "whole_map", Str.ofString "step", Str.ofString "a", Str.ofString "b", Str.ofString "c", Str.ofString "d"], [Str.ofString "whole_map", Str.ofString "step"], false, none⟩,
  ⟨Str.ofString "shape_mapped_in", [Str.ofString "whole_map", Str.ofString "shape", Str.ofString "corner"], [Str.ofString "whole_map", Str.ofString "shape"], false, none⟩,
  ⟨Str.ofString "composed_in", [Str.ofString "one", Str.ofString "other", Str.ofString "place", Str.ofString "first", Str.ofString "second"], [Str.ofString "one", Str.ofString "other"], false, none⟩,
  ⟨Str.ofString "inverse_in", [Str.ofString "whole_map", Str.ofString "sense", Str.ofString "back", Str.ofString "place", Str.ofString "a", Str.ofString "b", Str.ofString "c", Str.ofString "d", Str.ofString "e", Str.ofString "f"], [Str.ofString "whole_map"], false, none⟩,
  ⟨Str.ofString "map_power_in", [Str.ofString "whole_map", Str.ofString "k", Str.ofString "found", Str.ofString "turn"], [Str.ofString "whole_map", Str.ofString "k"], false, none⟩,
  ⟨Str.ofString "order_in", [Str.ofString "whole_map", Str.ofString "found", Str.ofString "order"], [Str.ofString "whole_map"], false, none⟩,
  ⟨Str.ofString "map_through_in", [Str.ofString "three", Str.ofString "images", Str.ofString "at", Str.ofString "place", Str.ofString "one", Str.ofString "other", Str.ofString "first", Str.ofString "second", Str.ofString "size", Str.ofString "tops", Str.ofString "a", Str.ofString "b", Str.ofString "c", Str.ofString "d", Str.ofString "top"], [Str.ofString "three", Str.ofString "images"], false, none⟩,
  ⟨Str.ofString "line_of_row", [Str.ofString "p", Str.ofString "q", Str.ofString "c", Str.ofString "shared", Str.ofString "sign"], [Str.ofString "p", Str.ofString "q", Str.ofString "c"], false, none⟩,
  ⟨Str.ofString "left_points_in", [Str.ofString "whole_map", Str.ofString "rows", Str.ofString "size", Str.ofString "bent", Str.ofString "a", Str.ofString "b", Str.ofString "c", Str.ofString "d", Str.ofString "e", Str.ofString "f", Str.ofString "top", Str.ofString "other", Str.ofString "one", Str.ofString "row"], [Str.ofString "whole_map"], false, none⟩,
  ⟨Str.ofString "is_simple", [Str.ofString "value", Str.ofString "entry"], [Str.ofString "value"], false, none⟩,
  ⟨Str.ofString "is_simple_row_in", [Str.ofString "whole_map", Str.ofString "value", Str.ofString "found", Str.ofString "one"], [Str.ofString "whole_map", Str.ofString "value"], false, none⟩,
  ⟨Str.ofString "shear", [Str.ofString "k"], [Str.ofString "k"], false, none⟩,
  ⟨Str.ofString "last_rows", [Str.ofString "whole_map", Str.ofString "turned", Str.ofString "a", Str.ofString "b", Str.ofString "_", Str.ofString "d"], [Str.ofString "whole_map"], false, none⟩,
  ⟨Str.ofString "simple_row_in", [Str.ofString "whole_map", Str.ofString "row", Str.ofString "some", Str.ofString "place", Str.ofString "left", Str.ofString "undone", Str.ofString "k", Str.ofString "one"], [Str.ofString "whole_map"], false, none⟩,
  ⟨Str.ofString "require_map", [Str.ofString "value"], [Str.ofString "value"], false, none⟩,
  ⟨Str.ofString "near_map", [Str.ofString "found"], [Str.ofString "found"], false, none⟩,
  ⟨Str.ofString "require_three", [Str.ofString "value", Str.ofString "point"], [Str.ofString "value"], false, none⟩,
  ⟨Str.ofString "sense", [Str.ofString "mapping"], [Str.ofString "mapping"], false, none⟩,
  ⟨Str.ofString "mapped", [Str.ofString "mapping", Str.ofString "point"], [Str.ofString "mapping", Str.ofString "point"], false, none⟩,
  ⟨Str.ofString "step_mapped", [Str.ofString "mapping", Str.ofString "step"], [Str.ofString "mapping", Str.ofString "step"], false, none⟩,
  ⟨Str.ofString "lot_mapped", [Str.ofString "mapping", Str.ofString "lot", Str.ofString "point"], [Str.ofString "mapping", Str.ofString "lot"], false, none⟩,
  ⟨Str.ofString "shape_mapped", [Str.ofString "mapping", Str.ofString "shape"], [Str.ofString "mapping", Str.ofString "shape"], false, none⟩,
  ⟨Str.ofString "composed", [Str.ofString "one", Str.ofString "other"], [Str.ofString "one", Str.ofString "other"], false, none⟩,
  ⟨Str.ofString "inverse", [Str.ofString "mapping"], [Str.ofString "mapping"], false, none⟩,
  ⟨Str.ofString "power_of", [Str.ofString "mapping", Str.ofString "k"], [Str.ofString "mapping", Str.ofString "k"], false, none⟩]
def tInfo2 : List (DfI) := [⟨Str.ofString "order_of", [Str.ofString "mapping"], [Str.ofString "mapping"], false, none⟩,
  ⟨Str.ofString "map_through", [Str.ofString "three", Str.ofString "images", Str.ofString "found"], [Str.ofString "three", Str.ofString "images"], false, none⟩,
  ⟨Str.ofString "left_points", [Str.ofString "mapping"], [Str.ofString "mapping"], false, none⟩,
  ⟨Str.ofString "simple_row", [Str.ofString "mapping"], [Str.ofString "mapping"], false, none⟩,
  ⟨Str.ofString "is_simple_row", [Str.ofString "mapping", Str.ofString "value"], [Str.ofString "mapping", Str.ofString "value"], false, none⟩,
  ⟨Str.ofString "is_alike_by", [Str.ofString "shape", Str.ofString "other", Str.ofString "mapping"], [Str.ofString "shape", Str.ofString "other", Str.ofString "mapping"], false, none⟩,
  ⟨Str.ofString "_law_dice", [Str.ofString "script", Str.ofString "spot", Str.ofString "cell", Str.ofString "left"], [Str.ofString "script", Str.ofString "spot"], false, none⟩,
  ⟨Str.ofString "_law_roll", [Str.ofString "dice", Str.ofString "total", Str.ofString "one", Str.ofString "two", Str.ofString "found"], [Str.ofString "dice", Str.ofString "total"], false, none⟩,
  ⟨Str.ofString "_law_pick", [Str.ofString "dice", Str.ofString "items"], [Str.ofString "dice", Str.ofString "items"], false, none⟩,
  ⟨Str.ofString "_law_met", [Str.ofString "call", Str.ofString "error"], [Str.ofString "call"], false, some (Str.ofString "call")⟩,
  ⟨Str.ofString "_law_calls", [Str.ofString "one", Str.ofString "other", Str.ofString "value", Str.ofString "k", Str.ofString "told", Str.ofString "call"], [Str.ofString "one", Str.ofString "other", Str.ofString "value", Str.ofString "k"], true, none⟩,
  ⟨Str.ofString "_law_right", [Str.ofString "dice", Str.ofString "some", Str.ofString "bad", Str.ofString "k", Str.ofString "good", Str.ofString "due", Str.ofString "three", Str.ofString "wrong", Str.ofString "line", Str.ofString "told", Str.ofString "no", Str.ofString "more"], [Str.ofString "dice"], true, none⟩,
  ⟨Str.ofString "_law_met_two", [Str.ofString "three", Str.ofString "images"], [Str.ofString "three", Str.ofString "images"], true, none⟩,
  ⟨Str.ofString "law", [Str.ofString "script", Str.ofString "spot", Str.ofString "told", Str.ofString "dice", Str.ofString "far", Str.ofString "near"], [Str.ofString "script"], true, none⟩]
def tInfo : List (DfI) := tInfo0 ++ tInfo1 ++ tInfo2
def tG0 : List (Str × GV) := [(Str.ofString "is_whole", GV.fn 0),
  (Str.ofString "is_near", GV.fn 1),
  (Str.ofString "is_within", GV.fn 2),
  (Str.ofString "is_pair", GV.fn 3),
  (Str.ofString "is_ascending", GV.fn 4),
  (Str.ofString "require_number", GV.fn 5),
  (Str.ofString "common_divisor", GV.fn 6),
  (Str.ofString "fraction", GV.fn 7),
  (Str.ofString "is_point_in", GV.fn 8),
  (Str.ofString "is_step_in", GV.fn 9),
  (Str.ofString "step_in", GV.fn 10),
  (Str.ofString "cross_in", GV.fn 11),
  (Str.ofString "signed_in", GV.fn 12),
  (Str.ofString "require_point", GV.fn 13),
  (Str.ofString "require_step", GV.fn 14),
  (Str.ofString "half_hull", GV.fn 15),
  (Str.ofString "hull_in", GV.fn 16),
  (Str.ofString "is_lot_in", GV.fn 17),
  (Str.ofString "is_shape_in", GV.fn 18),
  (Str.ofString "require_lot", GV.fn 19),
  (Str.ofString "require_shape", GV.fn 20),
  (Str.ofString "is_far_map", GV.fn 21),
  (Str.ofString "is_map_in", GV.fn 22),
  (Str.ofString "sense_in", GV.fn 23),
  (Str.ofString "mapped_in", GV.fn 24)]
def tG1 : List (Str × GV) := [(Str.ofString "step_mapped_in", GV.fn 25),
  (Str.ofString "shape_mapped_in", GV.fn 26),
  (Str.ofString "composed_in", GV.fn 27),
  (Str.ofString "inverse_in", GV.fn 28),
  (Str.ofString "map_power_in", GV.fn 29),
  (Str.ofString "order_in", GV.fn 30),
  (Str.ofString "map_through_in", GV.fn 31),
  (Str.ofString "line_of_row", GV.fn 32),
  (Str.ofString "left_points_in", GV.fn 33),
  (Str.ofString "is_simple", GV.fn 34),
  (Str.ofString "is_simple_row_in", GV.fn 35),
  (Str.ofString "shear", GV.fn 36),
  (Str.ofString "last_rows", GV.fn 37),
  (Str.ofString "simple_row_in", GV.fn 38),
  (Str.ofString "require_map", GV.fn 39),
  (Str.ofString "near_map", GV.fn 40),
  (Str.ofString "require_three", GV.fn 41),
  (Str.ofString "sense", GV.fn 42),
  (Str.ofString "mapped", GV.fn 43),
  (Str.ofString "step_mapped", GV.fn 44),
  (Str.ofString "lot_mapped", GV.fn 45),
  (Str.ofString "shape_mapped", GV.fn 46),
  (Str.ofString "composed", GV.fn 47),
  (Str.ofString "inverse", GV.fn 48),
  (Str.ofString "power_of", GV.fn 49)]
def tG2 : List (Str × GV) := [(Str.ofString "order_of", GV.fn 50),
  (Str.ofString "map_through", GV.fn 51),
  (Str.ofString "left_points", GV.fn 52),
  (Str.ofString "simple_row", GV.fn 53),
  (Str.ofString "is_simple_row", GV.fn 54),
  (Str.ofString "is_alike_by", GV.fn 55),
  (Str.ofString "_law_dice", GV.fn 56),
  (Str.ofString "_law_roll", GV.fn 57),
  (Str.ofString "_law_pick", GV.fn 58),
  (Str.ofString "_law_met", GV.fn 59),
  (Str.ofString "_law_calls", GV.fn 60),
  (Str.ofString "_law_right", GV.fn 61),
  (Str.ofString "_law_met_two", GV.fn 62),
  (Str.ofString "law", GV.fn 63),
  (Str.ofString "FAR", GV.cst 0),
  (Str.ofString "PAIR_SIZE", GV.cst 1),
  (Str.ofString "MOST_PLACE", GV.cst 2),
  (Str.ofString "MOST_STEP", GV.cst 3),
  (Str.ofString "MOST_POINTS", GV.cst 4),
  (Str.ofString "MOST_ENTRY", GV.cst 5),
  (Str.ofString "MOST_TIMES", GV.cst 6),
  (Str.ofString "MAP_SIZE", GV.cst 7),
  (Str.ofString "THREE", GV.cst 8),
  (Str.ofString "ORDERS", GV.cst 9),
  (Str.ofString "LEAVES_ALL", GV.cst 10)]
def tG3 : List (Str × GV) := [(Str.ofString "QUARTER", GV.cst 11),
  (Str.ofString "MIRROR", GV.cst 12),
  (Str.ofString "NONE", GV.cst 13),
  (Str.ofString "ONE", GV.cst 14),
  (Str.ofString "LINE", GV.cst 15),
  (Str.ofString "ALL", GV.cst 16),
  (Str.ofString "CornerError", GV.cls 0),
  (Str.ofString "InvalidPoint", GV.cls 1),
  (Str.ofString "InvalidStep", GV.cls 2),
  (Str.ofString "InvalidLot", GV.cls 3),
  (Str.ofString "InvalidShape", GV.cls 4),
  (Str.ofString "InvalidMap", GV.cls 5),
  (Str.ofString "InvalidOperation", GV.cls 6),
  (Str.ofString "InvalidNumber", GV.cls 7),
  (Str.ofString "TooMany", GV.cls 8)]
def tG : List (Str × GV) := tG0 ++ tG1 ++ tG2 ++ tG3
def tCst0 : List (PyData) := [(.int 1000000000000000000000000000000000000000000000000000000000000),
  (.int 2),
  (.int 1000),
  (.int 2000),
  (.int 60),
  (.int 10000),
  (.int 20),
  (.int 6),
  (.int 3),
  (.int 6),
  (.tuple [(.int 1), (.int 0), (.int 0), (.int 1), (.int 0), (.int 0)]),
  (.tuple [(.int 0), (.int (-1)), (.int 1), (.int 0), (.int 0), (.int 0)]),
  (.tuple [(.int 1), (.int 0), (.int 0), (.int (-1)), (.int 0), (.int 0)]),
  (.str (Str.ofString "none")),
  (.str (Str.ofString "one")),
  (.str (Str.ofString "line")),
  (.str (Str.ofString "all"))]
def tCst : List (PyData) := tCst0
def tSub0 : List (Nat × Nat) := [(0, 0),
  (1, 1),
  (1, 0),
  (2, 2),
  (2, 0),
  (3, 3),
  (3, 0),
  (4, 4),
  (4, 0),
  (5, 5),
  (5, 0),
  (6, 6),
  (6, 0),
  (7, 7),
  (8, 8)]
def tSub : List (Nat × Nat) := tSub0
def tF0 : List (Nat × Str) := [(7, Str.ofString "value"),
  (8, Str.ofString "number")]
def tF : List (Nat × Str) := tF0
def tCls0 : List (Str × EB) := [(Str.ofString "CornerError", EB.val),
  (Str.ofString "InvalidPoint", EB.val),
  (Str.ofString "InvalidStep", EB.val),
  (Str.ofString "InvalidLot", EB.val),
  (Str.ofString "InvalidShape", EB.val),
  (Str.ofString "InvalidMap", EB.val),
  (Str.ofString "InvalidOperation", EB.val),
  (Str.ofString "InvalidNumber", EB.idx),
  (Str.ofString "TooMany", EB.ovf)]
def tCls : List (Str × EB) := tCls0
def tTq0 : List (Str × Str) := [(Str.ofString "_law_calls", Str.ofString "_law_calls"),
  (Str.ofString "_law_right", Str.ofString "_law_right"),
  (Str.ofString "_law_met_two", Str.ofString "_law_met_two"),
  (Str.ofString "law", Str.ofString "law")]
def tTq : List (Str × Str) := tTq0
def tV : Wrl := ⟨tCst, tSub, 1000, tDefs⟩
def tx : Txt := ⟨tG, tF, tV, tInfo, tCls, tTq, Str.ofString "/claim/cut.py"⟩
end Rf

set_option Elab.async false
set_option linter.all false
set_option maxRecDepth 100000
set_option maxHeartbeats 0
namespace Rf
open PySem PySem.Spec PyProof.Rows L2
abbrev Rw : PySem.W.OpenRow := PySem.W.OpenLaw.row PySem.Challenge.rw_wholecorners_k18_errors_of_maps
def asX (g : Addr → Option Obj) : List Addr := asR g 5
def lo0 : List PySem.Str := [Str.ofString "CornerError", Str.ofString "InvalidPoint", Str.ofString "InvalidStep", Str.ofString "InvalidLot", Str.ofString "InvalidShape", Str.ofString "InvalidMap", Str.ofString "InvalidOperation", Str.ofString "InvalidNumber", Str.ofString "TooMany", Str.ofString "FAR", Str.ofString "PAIR_SIZE", Str.ofString "is_whole", Str.ofString "is_near", Str.ofString "is_within", Str.ofString "is_pair", Str.ofString "is_ascending", Str.ofString "require_number", Str.ofString "common_divisor", Str.ofString "fraction", Str.ofString "MOST_PLACE", Str.ofString "MOST_STEP", Str.ofString "is_point_in", Str.ofString "is_step_in", Str.ofString "step_in", Str.ofString "cross_in", Str.ofString "signed_in", Str.ofString "require_point", Str.ofString "require_step", Str.ofString "MOST_POINTS", Str.ofString "half_hull"]
def lo1 : List PySem.Str := [Str.ofString "hull_in", Str.ofString "is_lot_in", Str.ofString "is_shape_in", Str.ofString "require_lot", Str.ofString "require_shape", Str.ofString "MOST_ENTRY", Str.ofString "MOST_TIMES", Str.ofString "MAP_SIZE", Str.ofString "THREE", Str.ofString "ORDERS", Str.ofString "LEAVES_ALL", Str.ofString "QUARTER", Str.ofString "MIRROR", Str.ofString "NONE", Str.ofString "ONE", Str.ofString "LINE", Str.ofString "ALL", Str.ofString "is_far_map", Str.ofString "is_map_in", Str.ofString "sense_in", Str.ofString "mapped_in", Str.ofString "step_mapped_in", Str.ofString "shape_mapped_in", Str.ofString "composed_in", Str.ofString "inverse_in", Str.ofString "map_power_in", Str.ofString "order_in", Str.ofString "map_through_in", Str.ofString "line_of_row", Str.ofString "left_points_in"]
def lo2 : List PySem.Str := [Str.ofString "is_simple", Str.ofString "is_simple_row_in", Str.ofString "shear", Str.ofString "last_rows", Str.ofString "simple_row_in", Str.ofString "require_map", Str.ofString "near_map", Str.ofString "require_three", Str.ofString "sense", Str.ofString "mapped", Str.ofString "step_mapped", Str.ofString "lot_mapped", Str.ofString "shape_mapped", Str.ofString "composed", Str.ofString "inverse", Str.ofString "power_of", Str.ofString "order_of", Str.ofString "map_through", Str.ofString "left_points", Str.ofString "simple_row", Str.ofString "is_simple_row", Str.ofString "is_alike_by", Str.ofString "_law_dice", Str.ofString "_law_roll", Str.ofString "_law_pick", Str.ofString "_law_met", Str.ofString "_law_calls", Str.ofString "_law_right", Str.ofString "_law_met_two"]
def loose : List PySem.Str := lo0 ++ lo1 ++ lo2
theorem runA (w : World) (os : OsState) : (HandSHeadRun.endF (HandSHeadRun.stepQ (HandSHeadRun.denQ HandSHeadRun.tabQ) Rw.prog w) 6000 Rw.prog w os).map (fun s => (HandSHeadRun.looksF Rw.prog (PySem.W.boot_heap w.params) s.abs, HandSHeadRun.seenQ (PySem.W.view Rw.prog [95]) loose (importedModules Rw.prog.main.body) (fun s => PySem.W.xlAt (PySem.W.view Rw.prog [95]) [] s && PySem.W.recOk Rw.toRowW.records s) s.abs, ob1 asX tx s)) = some (true, PySem.W.openGood (PySem.W.view Rw.prog [95]) loose, true) := by kernel_rfl
theorem run2_0 (w : World) (os : OsState) : (HandSHeadRun.endF (HandSHeadRun.stepQ (HandSHeadRun.denQ HandSHeadRun.tabQ) Rw.prog w) 6000 Rw.prog w os).map (ob2 asX tx 32 0) = some true := by kernel_rfl
theorem run2_1 (w : World) (os : OsState) : (HandSHeadRun.endF (HandSHeadRun.stepQ (HandSHeadRun.denQ HandSHeadRun.tabQ) Rw.prog w) 6000 Rw.prog w os).map (ob2 asX tx 32 1) = some true := by kernel_rfl
theorem run2 (w : World) (os : OsState) : ∀ i, i < 2 → (HandSHeadRun.endF (HandSHeadRun.stepQ (HandSHeadRun.denQ HandSHeadRun.tabQ) Rw.prog w) 6000 Rw.prog w os).map (ob2 asX tx 32 i) = some true
  | 0, _ => run2_0 w os
  | 1, _ => run2_1 w os
  | n + 2, h => absurd h (by omega)
theorem run_n : Nat.ble tx.fns.length (2 * 32) = true := by decide +kernel
theorem run (w : World) : HandSHeadRun.RunEq Rw (PySem.W.view Rw.prog [95]) (hookR asX tx) (obR asX tx) 6000 loose w := @runEq_split3 Rw (PySem.W.view Rw.prog [95]) asX tx 6000 32 2 loose w (by decide) run_n (runA w) (run2 w)
end Rf

set_option Elab.async false
set_option linter.all false
set_option maxRecDepth 100000
set_option maxHeartbeats 0
namespace Rf
open PySem PySem.Spec PyProof.Rows L2
def smX : Nat → List Val → Option (M Res) := noSm
theorem smX_ok : SmOk tV smX 12 := fun _ _ _ h => by cases h
def smR : Nat → List Val → Option (M Res) := fun f xs => match xs with
  | [.dice] => cond (f == 61) (some (.ret (rB true))) none
  | _ => smX f xs
theorem def61 : tV.defs[61]? = some (.body 1 12 b61) := by kernel_rfl
def ann61 : List (List Nat × Bool) := [([], false), ([1], false), ([1], false), ([1], true), ([], true), ([], true), ([], false), ([10, 11, 2, 3], false), ([3], false), ([11, 2, 3, 4, 5], false), ([], false), ([], true), ([], true), ([6, 7, 8], false), ([6, 8, 9], false), ([9], false), ([10, 2], false), ([10, 2, 6, 9], false), ([10, 6, 9], false), ([9], false)]
def hs61_0 : List (List Val) := []
def as61_0_0 : List AS := [⟨[(some (.v .dice)), none, none, none, none, none, none, none, none, none, none, none], hs61_0⟩]
def as61_0 : List AS := as61_0_0
def as61_1_0 : List AS := [⟨[(some (.v .dice)), (some (.own [.none, (.int 0), (.tuple [(.int 1), (.int 0), (.int 0), (.int 1)]), (.tuple [(.int 1), (.int 0), (.int 0), (.int 1), (.int 0), (.int 0), (.int 0)]), (.list [(.int 1), (.int 0), (.int 0), (.int 1), (.int 0), (.int 0)]), (.tuple [(.int 2), (.int 0), (.int 0), (.int 1), (.int 0), (.int 0)]), (.dict [])])), none, none, none, none, none, none, none, none, none, none], hs61_0⟩]
def as61_1 : List AS := as61_1_0
def as61_2_0 : List AS := [⟨[(some (.v .dice)), (some (.own [.none, (.int 0), (.tuple [(.int 1), (.int 0), (.int 0), (.int 1)]), (.tuple [(.int 1), (.int 0), (.int 0), (.int 1), (.int 0), (.int 0), (.int 0)]), (.list [(.int 1), (.int 0), (.int 0), (.int 1), (.int 0), (.int 0)]), (.tuple [(.int 2), (.int 0), (.int 0), (.int 1), (.int 0), (.int 0)]), (.dict []), (.tuple [(.int 0), (.int 0), (.int 0), (.int 0), (.int 0), (.int 0)])])), none, none, none, none, none, none, none, none, none, none], hs61_0⟩]
def as61_2 : List AS := as61_2_0
def as61_3_0 : List AS := [⟨[(some (.v .dice)), (some (.v (.p (.list [.none, (.int 0), (.tuple [(.int 1), (.int 0), (.int 0), (.int 1)]), (.tuple [(.int 1), (.int 0), (.int 0), (.int 1), (.int 0), (.int 0), (.int 0)]), (.list [(.int 1), (.int 0), (.int 0), (.int 1), (.int 0), (.int 0)]), (.tuple [(.int 2), (.int 0), (.int 0), (.int 1), (.int 0), (.int 0)]), (.dict []), (.tuple [(.int 0), (.int 0), (.int 0), (.int 0), (.int 0), (.int 0)]), (.tuple [(.int 1), (.int 0), (.int 0), (.int 1), (.int 10001), (.int 0)]), (.tuple [(.bool true), (.int 0), (.int 0), (.int 1), (.int 0), (.int 0)]), (.tuple [(.int 1), (.int 0), (.int 0), (.int 1), .none, (.int 0)]), (.str (Str.ofString "map")), (.tuple [(.int 1), (.int 1), (.int 1), (.int 1), (.int 0), (.int 0)])])))), none, none, none, none, none, none, none, none, none, none], hs61_0⟩]
def as61_3 : List AS := as61_3_0
def hs61_1 : List (List Val) := [[(.p .none), (.p (.int 0)), (.p (.tuple [(.int 1), (.int 0), (.int 0), (.int 1)])), (.p (.tuple [(.int 1), (.int 0), (.int 0), (.int 1), (.int 0), (.int 0), (.int 0)])), (.p (.list [(.int 1), (.int 0), (.int 0), (.int 1), (.int 0), (.int 0)])), (.p (.tuple [(.int 2), (.int 0), (.int 0), (.int 1), (.int 0), (.int 0)])), (.p (.dict [])), (.p (.tuple [(.int 0), (.int 0), (.int 0), (.int 0), (.int 0), (.int 0)])), (.p (.tuple [(.int 1), (.int 0), (.int 0), (.int 1), (.int 10001), (.int 0)])), (.p (.tuple [(.bool true), (.int 0), (.int 0), (.int 1), (.int 0), (.int 0)])), (.p (.tuple [(.int 1), (.int 0), (.int 0), (.int 1), .none, (.int 0)])), (.p (.str (Str.ofString "map"))), (.p (.tuple [(.int 1), (.int 1), (.int 1), (.int 1), (.int 0), (.int 0)]))], [(.p .none), (.p (.int 0)), (.p (.tuple [(.int 1), (.int 0), (.int 0), (.int 1)])), (.p (.tuple [(.int 1), (.int 0), (.int 0), (.int 1), (.int 0), (.int 0), (.int 0)])), (.p (.list [(.int 1), (.int 0), (.int 0), (.int 1), (.int 0), (.int 0)])), (.p (.tuple [(.int 2), (.int 0), (.int 0), (.int 1), (.int 0), (.int 0)])), (.p (.dict [])), (.p (.tuple [(.int 0), (.int 0), (.int 0), (.int 0), (.int 0), (.int 0)])), (.p (.tuple [(.int 1), (.int 0), (.int 0), (.int 1), (.int 10001), (.int 0)])), (.p (.tuple [(.bool true), (.int 0), (.int 0), (.int 1), (.int 0), (.int 0)])), (.p (.tuple [(.int 1), (.int 0), (.int 0), (.int 1), .none, (.int 0)])), (.p (.str (Str.ofString "map"))), (.p (.tuple [(.int 1), (.int 1), (.int 1), (.int 1), (.int 0), (.int 0)]))]]
def as61_4_0 : List AS := [⟨[(some (.v .dice)), none, none, none, none, none, none, none, none, none, (some (.v (.fn 1000000))), (some (.v (.fn 1000001)))], hs61_1⟩]
def as61_4 : List AS := as61_4_0
def hs61_2 : List (List Val) := [[(.p .none), (.p (.int 0)), (.p (.tuple [(.int 1), (.int 0), (.int 0), (.int 1)])), (.p (.tuple [(.int 1), (.int 0), (.int 0), (.int 1), (.int 0), (.int 0), (.int 0)])), (.p (.list [(.int 1), (.int 0), (.int 0), (.int 1), (.int 0), (.int 0)])), (.p (.tuple [(.int 2), (.int 0), (.int 0), (.int 1), (.int 0), (.int 0)])), (.p (.dict [])), (.p (.tuple [(.int 0), (.int 0), (.int 0), (.int 0), (.int 0), (.int 0)])), (.p (.tuple [(.int 1), (.int 0), (.int 0), (.int 1), (.int 10001), (.int 0)])), (.p (.tuple [(.bool true), (.int 0), (.int 0), (.int 1), (.int 0), (.int 0)])), (.p (.tuple [(.int 1), (.int 0), (.int 0), (.int 1), .none, (.int 0)])), (.p (.str (Str.ofString "map"))), (.p (.tuple [(.int 1), (.int 1), (.int 1), (.int 1), (.int 0), (.int 0)]))], [(.p .none), (.p (.int 0)), (.p (.tuple [(.int 1), (.int 0), (.int 0), (.int 1)])), (.p (.tuple [(.int 1), (.int 0), (.int 0), (.int 1), (.int 0), (.int 0), (.int 0)])), (.p (.list [(.int 1), (.int 0), (.int 0), (.int 1), (.int 0), (.int 0)])), (.p (.tuple [(.int 2), (.int 0), (.int 0), (.int 1), (.int 0), (.int 0)])), (.p (.dict [])), (.p (.tuple [(.int 0), (.int 0), (.int 0), (.int 0), (.int 0), (.int 0)])), (.p (.tuple [(.int 1), (.int 0), (.int 0), (.int 1), (.int 10001), (.int 0)])), (.p (.tuple [(.bool true), (.int 0), (.int 0), (.int 1), (.int 0), (.int 0)])), (.p (.tuple [(.int 1), (.int 0), (.int 0), (.int 1), .none, (.int 0)])), (.p (.str (Str.ofString "map"))), (.p (.tuple [(.int 1), (.int 1), (.int 1), (.int 1), (.int 0), (.int 0)]))], [(.p .none), (.p (.int 0)), (.p (.tuple [(.int 1)])), (.p (.list [(.int 0), (.int 0)])), (.p (.tuple [(.int 0), (.int 2001)])), (.p (.tuple [(.int 0), (.bool true)])), (.p (.tuple [(.int 0), (.str (Str.ofString "1"))])), (.p (.dict [])), (.p (.str (Str.ofString "00"))), (.p (.tuple [.none, (.int 0)])), (.p (.tuple [(.int (-1000000000000000000000000000000000000000000000000000000000000)), (.int 0)]))]]
def as61_5_0 : List AS := [⟨[(some (.v .dice)), none, (some (.v (.fn 1000002))), none, none, none, none, none, none, none, (some (.v (.fn 1000000))), (some (.v (.fn 1000001)))], hs61_2⟩]
def as61_5 : List AS := as61_5_0
def hs61_3 : List (List Val) := [[(.p .none), (.p (.int 0)), (.p (.tuple [(.int 1), (.int 0), (.int 0), (.int 1)])), (.p (.tuple [(.int 1), (.int 0), (.int 0), (.int 1), (.int 0), (.int 0), (.int 0)])), (.p (.list [(.int 1), (.int 0), (.int 0), (.int 1), (.int 0), (.int 0)])), (.p (.tuple [(.int 2), (.int 0), (.int 0), (.int 1), (.int 0), (.int 0)])), (.p (.dict [])), (.p (.tuple [(.int 0), (.int 0), (.int 0), (.int 0), (.int 0), (.int 0)])), (.p (.tuple [(.int 1), (.int 0), (.int 0), (.int 1), (.int 10001), (.int 0)])), (.p (.tuple [(.bool true), (.int 0), (.int 0), (.int 1), (.int 0), (.int 0)])), (.p (.tuple [(.int 1), (.int 0), (.int 0), (.int 1), .none, (.int 0)])), (.p (.str (Str.ofString "map"))), (.p (.tuple [(.int 1), (.int 1), (.int 1), (.int 1), (.int 0), (.int 0)]))], [(.p .none), (.p (.int 0)), (.p (.tuple [(.int 1), (.int 0), (.int 0), (.int 1)])), (.p (.tuple [(.int 1), (.int 0), (.int 0), (.int 1), (.int 0), (.int 0), (.int 0)])), (.p (.list [(.int 1), (.int 0), (.int 0), (.int 1), (.int 0), (.int 0)])), (.p (.tuple [(.int 2), (.int 0), (.int 0), (.int 1), (.int 0), (.int 0)])), (.p (.dict [])), (.p (.tuple [(.int 0), (.int 0), (.int 0), (.int 0), (.int 0), (.int 0)])), (.p (.tuple [(.int 1), (.int 0), (.int 0), (.int 1), (.int 10001), (.int 0)])), (.p (.tuple [(.bool true), (.int 0), (.int 0), (.int 1), (.int 0), (.int 0)])), (.p (.tuple [(.int 1), (.int 0), (.int 0), (.int 1), .none, (.int 0)])), (.p (.str (Str.ofString "map"))), (.p (.tuple [(.int 1), (.int 1), (.int 1), (.int 1), (.int 0), (.int 0)]))], [(.p .none), (.p (.int 0)), (.p (.tuple [(.int 1)])), (.p (.list [(.int 0), (.int 0)])), (.p (.tuple [(.int 0), (.int 2001)])), (.p (.tuple [(.int 0), (.bool true)])), (.p (.tuple [(.int 0), (.str (Str.ofString "1"))])), (.p (.dict [])), (.p (.str (Str.ofString "00"))), (.p (.tuple [.none, (.int 0)])), (.p (.tuple [(.int (-1000000000000000000000000000000000000000000000000000000000000)), (.int 0)]))], [(.p .none), (.p (.int (-21))), (.p (.int 21)), (.p (.bool true)), (.p (.str (Str.ofString "1"))), (.p (.tuple [(.int 1)])), (.p (.int 1000000000000000000000000000000000000000000000000000000000000))]]
def as61_6_0 : List AS := [⟨[(some (.v .dice)), none, (some (.v (.fn 1000002))), (some (.v (.fn 1000003))), none, none, none, none, none, none, (some (.v (.fn 1000000))), (some (.v (.fn 1000001)))], hs61_3⟩]
def as61_6 : List AS := as61_6_0
def as61_7_0 : List AS := [⟨[(some (.v .dice)), none, (some (.v (.fn 1000002))), (some (.v (.fn 1000003))), (some (.v (.p (.tuple [(.int 1), (.int 1), (.int 0), (.int 1), (.int 2), (.int 3)])))), none, none, none, none, none, (some (.v (.fn 1000000))), (some (.v (.fn 1000001)))], hs61_3⟩]
def as61_7 : List AS := as61_7_0
def as61_8_0 : List AS := [⟨[(some (.v .dice)), none, (some (.v (.fn 1000002))), (some (.v (.fn 1000003))), (some (.v (.p (.tuple [(.int 1), (.int 1), (.int 0), (.int 1), (.int 2), (.int 3)])))), none, none, none, none, none, (some (.v (.fn 1000000))), (some (.v (.fn 1000001)))], hs61_3⟩]
def as61_8 : List AS := as61_8_0
def as61_9_0 : List AS := [⟨[(some (.v .dice)), none, (some (.v (.fn 1000002))), (some (.v (.p .none))), (some (.v (.p (.tuple [(.int 1), (.int 1), (.int 0), (.int 1), (.int 2), (.int 3)])))), (some (.own [(.str (Str.ofString "fine")), (.str (Str.ofString "fine")), (.str (Str.ofString "fine")), (.str (Str.ofString "fine")), (.str (Str.ofString "fine")), (.str (Str.ofString "fine")), (.str (Str.ofString "map")), (.str (Str.ofString "point")), (.str (Str.ofString "step")), (.str (Str.ofString "lot")), (.str (Str.ofString "shape")), (.str (Str.ofString "number None"))])), none, none, none, none, (some (.v (.fn 1000000))), (some (.v (.fn 1000001)))], hs61_3⟩,
  ⟨[(some (.v .dice)), none, (some (.v (.fn 1000002))), (some (.v (.p (.int (-21))))), (some (.v (.p (.tuple [(.int 1), (.int 1), (.int 0), (.int 1), (.int 2), (.int 3)])))), (some (.own [(.str (Str.ofString "fine")), (.str (Str.ofString "fine")), (.str (Str.ofString "fine")), (.str (Str.ofString "fine")), (.str (Str.ofString "fine")), (.str (Str.ofString "fine")), (.str (Str.ofString "map")), (.str (Str.ofString "point")), (.str (Str.ofString "step")), (.str (Str.ofString "lot")), (.str (Str.ofString "shape")), (.str (Str.ofString "number -21"))])), none, none, none, none, (some (.v (.fn 1000000))), (some (.v (.fn 1000001)))], hs61_3⟩,
  ⟨[(some (.v .dice)), none, (some (.v (.fn 1000002))), (some (.v (.p (.int 21)))), (some (.v (.p (.tuple [(.int 1), (.int 1), (.int 0), (.int 1), (.int 2), (.int 3)])))), (some (.own [(.str (Str.ofString "fine")), (.str (Str.ofString "fine")), (.str (Str.ofString "fine")), (.str (Str.ofString "fine")), (.str (Str.ofString "fine")), (.str (Str.ofString "fine")), (.str (Str.ofString "map")), (.str (Str.ofString "point")), (.str (Str.ofString "step")), (.str (Str.ofString "lot")), (.str (Str.ofString "shape")), (.str (Str.ofString "number 21"))])), none, none, none, none, (some (.v (.fn 1000000))), (some (.v (.fn 1000001)))], hs61_3⟩,
  ⟨[(some (.v .dice)), none, (some (.v (.fn 1000002))), (some (.v (.p (.bool true)))), (some (.v (.p (.tuple [(.int 1), (.int 1), (.int 0), (.int 1), (.int 2), (.int 3)])))), (some (.own [(.str (Str.ofString "fine")), (.str (Str.ofString "fine")), (.str (Str.ofString "fine")), (.str (Str.ofString "fine")), (.str (Str.ofString "fine")), (.str (Str.ofString "fine")), (.str (Str.ofString "map")), (.str (Str.ofString "point")), (.str (Str.ofString "step")), (.str (Str.ofString "lot")), (.str (Str.ofString "shape")), (.str (Str.ofString "number True"))])), none, none, none, none, (some (.v (.fn 1000000))), (some (.v (.fn 1000001)))], hs61_3⟩,
  ⟨[(some (.v .dice)), none, (some (.v (.fn 1000002))), (some (.v (.p (.str (Str.ofString "1"))))), (some (.v (.p (.tuple [(.int 1), (.int 1), (.int 0), (.int 1), (.int 2), (.int 3)])))), (some (.own [(.str (Str.ofString "fine")), (.str (Str.ofString "fine")), (.str (Str.ofString "fine")), (.str (Str.ofString "fine")), (.str (Str.ofString "fine")), (.str (Str.ofString "fine")), (.str (Str.ofString "map")), (.str (Str.ofString "point")), (.str (Str.ofString "step")), (.str (Str.ofString "lot")), (.str (Str.ofString "shape")), (.str (Str.ofString "number '1'"))])), none, none, none, none, (some (.v (.fn 1000000))), (some (.v (.fn 1000001)))], hs61_3⟩,
  ⟨[(some (.v .dice)), none, (some (.v (.fn 1000002))), (some (.v (.p (.tuple [(.int 1)])))), (some (.v (.p (.tuple [(.int 1), (.int 1), (.int 0), (.int 1), (.int 2), (.int 3)])))), (some (.own [(.str (Str.ofString "fine")), (.str (Str.ofString "fine")), (.str (Str.ofString "fine")), (.str (Str.ofString "fine")), (.str (Str.ofString "fine")), (.str (Str.ofString "fine")), (.str (Str.ofString "map")), (.str (Str.ofString "point")), (.str (Str.ofString "step")), (.str (Str.ofString "lot")), (.str (Str.ofString "shape")), (.str (Str.ofString "number (1,)"))])), none, none, none, none, (some (.v (.fn 1000000))), (some (.v (.fn 1000001)))], hs61_3⟩,
  ⟨[(some (.v .dice)), none, (some (.v (.fn 1000002))), (some (.v (.p (.int 1000000000000000000000000000000000000000000000000000000000000)))), (some (.v (.p (.tuple [(.int 1), (.int 1), (.int 0), (.int 1), (.int 2), (.int 3)])))), (some (.own [(.str (Str.ofString "fine")), (.str (Str.ofString "fine")), (.str (Str.ofString "fine")), (.str (Str.ofString "fine")), (.str (Str.ofString "fine")), (.str (Str.ofString "fine")), (.str (Str.ofString "map")), (.str (Str.ofString "point")), (.str (Str.ofString "step")), (.str (Str.ofString "lot")), (.str (Str.ofString "shape")), (.str (Str.ofString "number 1000000000000000000000000000000000000000000000000000000000000"))])), none, none, none, none, (some (.v (.fn 1000000))), (some (.v (.fn 1000001)))], hs61_3⟩]
def as61_9 : List AS := as61_9_0
def as61_10_0 : List AS := [⟨[(some (.v .dice)), none, (some (.v (.fn 1000002))), none, none, none, none, none, none, none, (some (.v (.fn 1000000))), none], hs61_3⟩]
def as61_10 : List AS := as61_10_0
def as61_11_0 : List AS := [⟨[(some (.v .dice)), none, (some (.v (.fn 1000002))), none, none, none, (some (.v (.p (.tuple [(.tuple [(.int 0), (.int 0)]), (.tuple [(.int 1), (.int 0)]), (.tuple [(.int 0), (.int 1)])])))), none, none, none, (some (.v (.fn 1000000))), none], hs61_3⟩]
def as61_11 : List AS := as61_11_0
def hs61_4 : List (List Val) := [[(.p .none), (.p (.int 0)), (.p (.tuple [(.int 1), (.int 0), (.int 0), (.int 1)])), (.p (.tuple [(.int 1), (.int 0), (.int 0), (.int 1), (.int 0), (.int 0), (.int 0)])), (.p (.list [(.int 1), (.int 0), (.int 0), (.int 1), (.int 0), (.int 0)])), (.p (.tuple [(.int 2), (.int 0), (.int 0), (.int 1), (.int 0), (.int 0)])), (.p (.dict [])), (.p (.tuple [(.int 0), (.int 0), (.int 0), (.int 0), (.int 0), (.int 0)])), (.p (.tuple [(.int 1), (.int 0), (.int 0), (.int 1), (.int 10001), (.int 0)])), (.p (.tuple [(.bool true), (.int 0), (.int 0), (.int 1), (.int 0), (.int 0)])), (.p (.tuple [(.int 1), (.int 0), (.int 0), (.int 1), .none, (.int 0)])), (.p (.str (Str.ofString "map"))), (.p (.tuple [(.int 1), (.int 1), (.int 1), (.int 1), (.int 0), (.int 0)]))], [(.p .none), (.p (.int 0)), (.p (.tuple [(.int 1), (.int 0), (.int 0), (.int 1)])), (.p (.tuple [(.int 1), (.int 0), (.int 0), (.int 1), (.int 0), (.int 0), (.int 0)])), (.p (.list [(.int 1), (.int 0), (.int 0), (.int 1), (.int 0), (.int 0)])), (.p (.tuple [(.int 2), (.int 0), (.int 0), (.int 1), (.int 0), (.int 0)])), (.p (.dict [])), (.p (.tuple [(.int 0), (.int 0), (.int 0), (.int 0), (.int 0), (.int 0)])), (.p (.tuple [(.int 1), (.int 0), (.int 0), (.int 1), (.int 10001), (.int 0)])), (.p (.tuple [(.bool true), (.int 0), (.int 0), (.int 1), (.int 0), (.int 0)])), (.p (.tuple [(.int 1), (.int 0), (.int 0), (.int 1), .none, (.int 0)])), (.p (.str (Str.ofString "map"))), (.p (.tuple [(.int 1), (.int 1), (.int 1), (.int 1), (.int 0), (.int 0)]))], [(.p .none), (.p (.int 0)), (.p (.tuple [(.int 1)])), (.p (.list [(.int 0), (.int 0)])), (.p (.tuple [(.int 0), (.int 2001)])), (.p (.tuple [(.int 0), (.bool true)])), (.p (.tuple [(.int 0), (.str (Str.ofString "1"))])), (.p (.dict [])), (.p (.str (Str.ofString "00"))), (.p (.tuple [.none, (.int 0)])), (.p (.tuple [(.int (-1000000000000000000000000000000000000000000000000000000000000)), (.int 0)]))], [(.p .none), (.p (.int (-21))), (.p (.int 21)), (.p (.bool true)), (.p (.str (Str.ofString "1"))), (.p (.tuple [(.int 1)])), (.p (.int 1000000000000000000000000000000000000000000000000000000000000))], [(.p .none), (.p (.tuple [])), (.p (.tuple [(.tuple [(.int 0), (.int 0)]), (.tuple [(.int 0), (.int 0)])])), (.p (.list [(.tuple [(.int 0), (.int 0)]), (.tuple [(.int 0), (.int 0)]), (.tuple [(.int 0), (.int 0)])])), (.p (.tuple [(.tuple [(.int 0), (.int 0)]), (.tuple [(.int 1), (.int 0)]), (.tuple [(.int 0)])]))]]
def as61_12_0 : List AS := [⟨[(some (.v .dice)), none, (some (.v (.fn 1000002))), none, none, none, (some (.v (.p (.tuple [(.tuple [(.int 0), (.int 0)]), (.tuple [(.int 1), (.int 0)]), (.tuple [(.int 0), (.int 1)])])))), (some (.v (.fn 1000004))), none, none, (some (.v (.fn 1000000))), none], hs61_4⟩]
def as61_12 : List AS := as61_12_0
def hs61_5 : List (List Val) := [[(.p .none), (.p (.int 0)), (.p (.tuple [(.int 1), (.int 0), (.int 0), (.int 1)])), (.p (.tuple [(.int 1), (.int 0), (.int 0), (.int 1), (.int 0), (.int 0), (.int 0)])), (.p (.list [(.int 1), (.int 0), (.int 0), (.int 1), (.int 0), (.int 0)])), (.p (.tuple [(.int 2), (.int 0), (.int 0), (.int 1), (.int 0), (.int 0)])), (.p (.dict [])), (.p (.tuple [(.int 0), (.int 0), (.int 0), (.int 0), (.int 0), (.int 0)])), (.p (.tuple [(.int 1), (.int 0), (.int 0), (.int 1), (.int 10001), (.int 0)])), (.p (.tuple [(.bool true), (.int 0), (.int 0), (.int 1), (.int 0), (.int 0)])), (.p (.tuple [(.int 1), (.int 0), (.int 0), (.int 1), .none, (.int 0)])), (.p (.str (Str.ofString "map"))), (.p (.tuple [(.int 1), (.int 1), (.int 1), (.int 1), (.int 0), (.int 0)]))], [(.p .none), (.p (.int 0)), (.p (.tuple [(.int 1), (.int 0), (.int 0), (.int 1)])), (.p (.tuple [(.int 1), (.int 0), (.int 0), (.int 1), (.int 0), (.int 0), (.int 0)])), (.p (.list [(.int 1), (.int 0), (.int 0), (.int 1), (.int 0), (.int 0)])), (.p (.tuple [(.int 2), (.int 0), (.int 0), (.int 1), (.int 0), (.int 0)])), (.p (.dict [])), (.p (.tuple [(.int 0), (.int 0), (.int 0), (.int 0), (.int 0), (.int 0)])), (.p (.tuple [(.int 1), (.int 0), (.int 0), (.int 1), (.int 10001), (.int 0)])), (.p (.tuple [(.bool true), (.int 0), (.int 0), (.int 1), (.int 0), (.int 0)])), (.p (.tuple [(.int 1), (.int 0), (.int 0), (.int 1), .none, (.int 0)])), (.p (.str (Str.ofString "map"))), (.p (.tuple [(.int 1), (.int 1), (.int 1), (.int 1), (.int 0), (.int 0)]))], [(.p .none), (.p (.int 0)), (.p (.tuple [(.int 1)])), (.p (.list [(.int 0), (.int 0)])), (.p (.tuple [(.int 0), (.int 2001)])), (.p (.tuple [(.int 0), (.bool true)])), (.p (.tuple [(.int 0), (.str (Str.ofString "1"))])), (.p (.dict [])), (.p (.str (Str.ofString "00"))), (.p (.tuple [.none, (.int 0)])), (.p (.tuple [(.int (-1000000000000000000000000000000000000000000000000000000000000)), (.int 0)]))], [(.p .none), (.p (.int (-21))), (.p (.int 21)), (.p (.bool true)), (.p (.str (Str.ofString "1"))), (.p (.tuple [(.int 1)])), (.p (.int 1000000000000000000000000000000000000000000000000000000000000))], [(.p .none), (.p (.tuple [])), (.p (.tuple [(.tuple [(.int 0), (.int 0)]), (.tuple [(.int 0), (.int 0)])])), (.p (.list [(.tuple [(.int 0), (.int 0)]), (.tuple [(.int 0), (.int 0)]), (.tuple [(.int 0), (.int 0)])])), (.p (.tuple [(.tuple [(.int 0), (.int 0)]), (.tuple [(.int 1), (.int 0)]), (.tuple [(.int 0)])]))], [(.p (.tuple [(.tuple [(.int 0), (.int 0)]), (.tuple [(.int 1), (.int 1)]), (.tuple [(.int 2), (.int 2)])])), (.p (.tuple [(.tuple [(.int 0), (.int 0)]), (.tuple [(.int 0), (.int 0)]), (.tuple [(.int 0), (.int 0)])])), (.p (.tuple [(.tuple [(.int 5), (.int 5)]), (.tuple [(.int 5), (.int 5)]), (.tuple [(.int 1), (.int 0)])]))]]
def as61_13_0 : List AS := [⟨[none, none, (some (.v (.fn 1000002))), none, none, none, (some (.v (.p (.tuple [(.tuple [(.int 0), (.int 0)]), (.tuple [(.int 1), (.int 0)]), (.tuple [(.int 0), (.int 1)])])))), (some (.v (.fn 1000004))), (some (.v (.fn 1000005))), none, (some (.v (.fn 1000000))), none], hs61_5⟩]
def as61_13 : List AS := as61_13_0
def as61_14_0 : List AS := [⟨[none, none, (some (.v (.fn 1000002))), none, none, none, (some (.v (.p (.tuple [(.tuple [(.int 0), (.int 0)]), (.tuple [(.int 1), (.int 0)]), (.tuple [(.int 0), (.int 1)])])))), none, (some (.v (.fn 1000005))), (some (.own [(.str (Str.ofString "point")), (.str (Str.ofString "point")), (.str (Str.ofString "point"))])), (some (.v (.fn 1000000))), none], hs61_5⟩]
def as61_14 : List AS := as61_14_0
def as61_15_0 : List AS := [⟨[none, none, (some (.v (.fn 1000002))), none, none, none, (some (.v (.p (.tuple [(.tuple [(.int 0), (.int 0)]), (.tuple [(.int 1), (.int 0)]), (.tuple [(.int 0), (.int 1)])])))), none, none, (some (.own [(.str (Str.ofString "point")), (.str (Str.ofString "point")), (.str (Str.ofString "point")), (.str (Str.ofString "operation"))])), (some (.v (.fn 1000000))), none], hs61_5⟩]
def as61_15 : List AS := as61_15_0
def as61_16_0 : List AS := [⟨[none, none, (some (.v (.fn 1000002))), none, none, none, (some (.v (.p (.tuple [(.tuple [(.int 0), (.int 0)]), (.tuple [(.int 1), (.int 0)]), (.tuple [(.int 0), (.int 1)])])))), none, none, none, (some (.v (.fn 1000000))), none], hs61_5⟩]
def as61_16 : List AS := as61_16_0
def as61_17_0 : List AS := [⟨[none, none, (some (.v (.fn 1000002))), none, none, none, (some (.v (.p (.tuple [(.tuple [(.int 0), (.int 0)]), (.tuple [(.int 1), (.int 0)]), (.tuple [(.int 0), (.int 1)])])))), none, none, (some (.own [(.str (Str.ofString "shape"))])), (some (.v (.fn 1000000))), none], hs61_5⟩]
def as61_17 : List AS := as61_17_0
def as61_18_0 : List AS := [⟨[none, none, none, none, none, none, (some (.v (.p (.tuple [(.tuple [(.int 0), (.int 0)]), (.tuple [(.int 1), (.int 0)]), (.tuple [(.int 0), (.int 1)])])))), none, none, (some (.own [(.str (Str.ofString "shape")), (.str (Str.ofString "shape"))])), (some (.v (.fn 1000000))), none], hs61_5⟩]
def as61_18 : List AS := as61_18_0
def as61_19_0 : List AS := [⟨[none, none, none, none, none, none, none, none, none, (some (.own [(.str (Str.ofString "shape")), (.str (Str.ofString "shape")), (.str (Str.ofString "map"))])), none, none], hs61_5⟩]
def as61_19 : List AS := as61_19_0
def as61_20 : List AS := []
theorem st61_0_0 : okStN (ctxM tV 11) b61 0 ([], false) as61_1 as61_0_0 = true := by decide +kernel
theorem st61_1_0 : okStN (ctxM tV 11) b61 1 ([1], false) as61_2 as61_1_0 = true := by decide +kernel
theorem st61_2_0 : okStN (ctxM tV 11) b61 2 ([1], false) as61_3 as61_2_0 = true := by decide +kernel
theorem st61_3_0 : okStN (ctxM tV 11) b61 3 ([1], true) as61_4 as61_3_0 = true := by decide +kernel
theorem st61_4_0 : okStN (ctxM tV 11) b61 4 ([], true) as61_5 as61_4_0 = true := by decide +kernel
theorem st61_5_0 : okStN (ctxM tV 11) b61 5 ([], true) as61_6 as61_5_0 = true := by decide +kernel
theorem st61_6_0 : okStN (ctxM tV 11) b61 6 ([], false) as61_7 as61_6_0 = true := by decide +kernel
theorem st61_7_0 : okStN (ctxM tV 11) b61 7 ([10, 11, 2, 3], false) as61_8 as61_7_0 = true := by decide +kernel
theorem st61_8_0 : okStN (ctxM tV 11) b61 8 ([3], false) as61_9 as61_8_0 = true := by decide +kernel
theorem st61_9_0 : okStN (ctxM tV 11) b61 9 ([11, 2, 3, 4, 5], false) as61_10 as61_9_0 = true := by decide +kernel
theorem st61_10_0 : okStN (ctxM tV 11) b61 10 ([], false) as61_11 as61_10_0 = true := by decide +kernel
theorem st61_11_0 : okStN (ctxM tV 11) b61 11 ([], true) as61_12 as61_11_0 = true := by decide +kernel
theorem st61_12_0 : okStN (ctxM tV 11) b61 12 ([], true) as61_13 as61_12_0 = true := by decide +kernel
theorem st61_13_0 : okStN (ctxM tV 11) b61 13 ([6, 7, 8], false) as61_14 as61_13_0 = true := by decide +kernel
theorem st61_14_0 : okStN (ctxM tV 11) b61 14 ([6, 8, 9], false) as61_15 as61_14_0 = true := by decide +kernel
theorem st61_15_0 : okStN (ctxM tV 11) b61 15 ([9], false) as61_16 as61_15_0 = true := by decide +kernel
theorem st61_16_0 : okStN (ctxM tV 11) b61 16 ([10, 2], false) as61_17 as61_16_0 = true := by decide +kernel
theorem st61_17_0 : okStN (ctxM tV 11) b61 17 ([10, 2, 6, 9], false) as61_18 as61_17_0 = true := by decide +kernel
theorem st61_18_0 : okStN (ctxM tV 11) b61 18 ([10, 6, 9], false) as61_19 as61_18_0 = true := by decide +kernel
theorem st61_19_0 : okStN (ctxM tV 11) b61 19 ([9], false) as61_20 as61_19_0 = true := by decide +kernel
theorem run61_20 : RunN (ctxX tV noSm 11) b61 20 as61_20 := RunN.done
theorem run61_19 : RunN (ctxX tV noSm 11) b61 19 as61_19 := (@RunN.step (ctxM tV 11) (ctxX tV noSm 11) b61 19 ([9], false) as61_19_0 as61_20 ctxM_im st61_19_0 run61_20)
theorem run61_18 : RunN (ctxX tV noSm 11) b61 18 as61_18 := (@RunN.step (ctxM tV 11) (ctxX tV noSm 11) b61 18 ([10, 6, 9], false) as61_18_0 as61_19 ctxM_im st61_18_0 run61_19)
theorem run61_17 : RunN (ctxX tV noSm 11) b61 17 as61_17 := (@RunN.step (ctxM tV 11) (ctxX tV noSm 11) b61 17 ([10, 2, 6, 9], false) as61_17_0 as61_18 ctxM_im st61_17_0 run61_18)
theorem run61_16 : RunN (ctxX tV noSm 11) b61 16 as61_16 := (@RunN.step (ctxM tV 11) (ctxX tV noSm 11) b61 16 ([10, 2], false) as61_16_0 as61_17 ctxM_im st61_16_0 run61_17)
theorem run61_15 : RunN (ctxX tV noSm 11) b61 15 as61_15 := (@RunN.step (ctxM tV 11) (ctxX tV noSm 11) b61 15 ([9], false) as61_15_0 as61_16 ctxM_im st61_15_0 run61_16)
theorem run61_14 : RunN (ctxX tV noSm 11) b61 14 as61_14 := (@RunN.step (ctxM tV 11) (ctxX tV noSm 11) b61 14 ([6, 8, 9], false) as61_14_0 as61_15 ctxM_im st61_14_0 run61_15)
theorem run61_13 : RunN (ctxX tV noSm 11) b61 13 as61_13 := (@RunN.step (ctxM tV 11) (ctxX tV noSm 11) b61 13 ([6, 7, 8], false) as61_13_0 as61_14 ctxM_im st61_13_0 run61_14)
theorem run61_12 : RunN (ctxX tV noSm 11) b61 12 as61_12 := (@RunN.step (ctxM tV 11) (ctxX tV noSm 11) b61 12 ([], true) as61_12_0 as61_13 ctxM_im st61_12_0 run61_13)
theorem run61_11 : RunN (ctxX tV noSm 11) b61 11 as61_11 := (@RunN.step (ctxM tV 11) (ctxX tV noSm 11) b61 11 ([], true) as61_11_0 as61_12 ctxM_im st61_11_0 run61_12)
theorem run61_10 : RunN (ctxX tV noSm 11) b61 10 as61_10 := (@RunN.step (ctxM tV 11) (ctxX tV noSm 11) b61 10 ([], false) as61_10_0 as61_11 ctxM_im st61_10_0 run61_11)
theorem run61_9 : RunN (ctxX tV noSm 11) b61 9 as61_9 := (@RunN.step (ctxM tV 11) (ctxX tV noSm 11) b61 9 ([11, 2, 3, 4, 5], false) as61_9_0 as61_10 ctxM_im st61_9_0 run61_10)
theorem run61_8 : RunN (ctxX tV noSm 11) b61 8 as61_8 := (@RunN.step (ctxM tV 11) (ctxX tV noSm 11) b61 8 ([3], false) as61_8_0 as61_9 ctxM_im st61_8_0 run61_9)
theorem run61_7 : RunN (ctxX tV noSm 11) b61 7 as61_7 := (@RunN.step (ctxM tV 11) (ctxX tV noSm 11) b61 7 ([10, 11, 2, 3], false) as61_7_0 as61_8 ctxM_im st61_7_0 run61_8)
theorem run61_6 : RunN (ctxX tV noSm 11) b61 6 as61_6 := (@RunN.step (ctxM tV 11) (ctxX tV noSm 11) b61 6 ([], false) as61_6_0 as61_7 ctxM_im st61_6_0 run61_7)
theorem run61_5 : RunN (ctxX tV noSm 11) b61 5 as61_5 := (@RunN.step (ctxM tV 11) (ctxX tV noSm 11) b61 5 ([], true) as61_5_0 as61_6 ctxM_im st61_5_0 run61_6)
theorem run61_4 : RunN (ctxX tV noSm 11) b61 4 as61_4 := (@RunN.step (ctxM tV 11) (ctxX tV noSm 11) b61 4 ([], true) as61_4_0 as61_5 ctxM_im st61_4_0 run61_5)
theorem run61_3 : RunN (ctxX tV noSm 11) b61 3 as61_3 := (@RunN.step (ctxM tV 11) (ctxX tV noSm 11) b61 3 ([1], true) as61_3_0 as61_4 ctxM_im st61_3_0 run61_4)
theorem run61_2 : RunN (ctxX tV noSm 11) b61 2 as61_2 := (@RunN.step (ctxM tV 11) (ctxX tV noSm 11) b61 2 ([1], false) as61_2_0 as61_3 ctxM_im st61_2_0 run61_3)
theorem run61_1 : RunN (ctxX tV noSm 11) b61 1 as61_1 := (@RunN.step (ctxM tV 11) (ctxX tV noSm 11) b61 1 ([1], false) as61_1_0 as61_2 ctxM_im st61_1_0 run61_2)
theorem run61_0 : RunN (ctxX tV noSm 11) b61 0 as61_0 := (@RunN.step (ctxM tV 11) (ctxX tV noSm 11) b61 0 ([], false) as61_0_0 as61_1 ctxM_im st61_0_0 run61_1)
theorem right61_s : as61_0.any (eqA (advA b61 ⟨startSl 12 [.dice], []⟩)) = true := by decide +kernel
theorem right61 : Le (.ret (rB true)) (callF tV 12 61 [.dice]) := @trueN tV 11 61 1 12 b61 [.dice] def61 rfl rfl as61_0 right61_s run61_0
theorem sm_ok : ∀ f xs m, smR f xs = some m → Le m (callF tV 12 f xs) := by
  intro f xs m h
  unfold smR at h
  split at h
  · cases e : (f == 61)
    · rw [e] at h
      cases h
    · rw [e] at h
      cases h
      simp only [Bool.or_eq_true, beq_iff_eq] at e
      subst e
      exact right61
  · exact smX_ok f xs m h
def lawIn : SL := (.cons (.set 3 (.call 56 (.cons (.var 0) (.cons (.var 1) .nil)))) (.cons (.iff (.or (.not (.call 61 (.cons (.var 3) .nil))) (.not (.call 61 (.cons (.var 3) .nil)))) (.cons (.ret (.lit (.bool false))) .nil) .nil) .nil))
theorem inner {call : Nat → List Val → M Res} {callT : Nat → M Res → M Res} {L : List PyData} (hd : ∀ i : Int, 0 ≤ i → i < 1000 → call 56 [.p (.list L), .p (.int i)] = .ret (.v .dice)) (hr61 : call 61 [.dice] = .ret (rB true)) (i : Int) (τ : Sl) (h0 : 0 ≤ i) (h1 : i < 1000) (hl : τ.length = 6 - 2) :
    WI L 6 (evSL (tV.ctx call callT .stuck) lawIn (some (.v (.p (.list L))) :: some (.v (.p (.int i))) :: τ)) := by
  refine WI.mk ?_
  match τ, hl with
  | [x2, x3, x4, x5], _ =>
    have q := hd i h0 h1
    simp [lawIn, Wrl.ctx, evSL, evS, evE, evT, evL, evR, evI, seqM, setM, iffM, forM, forF, frzM, killM, exprM, retM, varR, truthM, rangeL, List.range, List.range.loop, G.put, M.bind, M.ofOpt, M.guard, M.wp, Res.toVal, Res.slot, Res.int, Res.truth, Res.bool, q, hr61]
def lawRest : SL := match b63 with
  | .cons _ r => r
  | _ => .nil
theorem rest_k : restXB tV smR 9 6 lawRest = true := by decide +kernel
theorem intList_map : ∀ ns : List Int, intList (ns.map PyData.int) = true
  | [] => rfl
  | _ :: r => intList_map r
theorem def63 : tV.defs[63]? = some (.body 1 6 b63) := by kernel_rfl
theorem def56 : tV.defs[56]? = some (.dice 4 diceT) := by kernel_rfl
theorem b63_eq : b63 = .cons (.for_ (.name 1) (cellsI 5) lawIn) lawRest := by kernel_rfl
theorem law_rest (σ : Sl) (hl : σ.length = 6) : WT ((evSL (tV.ctx (callG tV smR 9) (callTG tV smR 9) .stuck) lawRest σ).bind flRes) := @restXB_ok tV smR 9 6 lawRest rest_k σ hl
theorem law_dice (ns : List Int) (i : Int) (h0 : 0 ≤ i) (h1 : i < 1000) : callG tV smR 9 56 [.p (.list (ns.map .int)), .p (.int i)] = .ret (.v .dice) := by
  rw [callG_dice (V := tV) (sm := smR) (d := 8) (f := 56) (L := ns.map .int) (i := i) (ns := 4) (b := diceT) def56 (by kernel_rfl)]
  exact guard_true (by rw [intList_map, decide_eq_true h0, decide_eq_true h1]; rfl)
theorem law_right61 : callG tV smR 9 61 [.dice] = .ret (rB true) := callG_sm (V := tV) (sm := smR) (d := 8) (f := 61) (xs := [.dice]) (m := .ret (rB true)) (by kernel_rfl)
theorem law_in (ns : List Int) (i : Int) (τ : Sl) (h0 : 0 ≤ i) (h1 : i < 1000) (hl : τ.length = 6 - 2) : WI (ns.map .int) 6 (evSL (tV.ctx (callG tV smR 9) (callTG tV smR 9) .stuck) lawIn (some (.v (.p (.list (ns.map .int)))) :: some (.v (.p (.int i))) :: τ)) :=
  @inner (callG tV smR 9) (callTG tV smR 9) (ns.map .int) (fun i h0 h1 => law_dice ns i h0 h1) law_right61 i τ h0 h1 hl
theorem law_plain0 (ns : List Int) : WT (callG tV smR 10 63 [.p (.list (ns.map .int))]) := by
  rw [callG_body (V := tV) (sm := smR) (d := 9) (f := 63) (xs := [.p (.list (ns.map .int))]) (np := 1) (ns := 6) (b := b63) def63 (by kernel_rfl) rfl, b63_eq]
  exact @cellsW (tV.ctx (callG tV smR 9) (callTG tV smR 9) .stuck) lawIn lawRest 6 5 (ns.map .int) (by decide) (by decide) (by decide) (law_in ns) law_rest
theorem law_plain (ns : List Int) : WT (callF tV 22 63 [.p (.list (ns.map .int))]) := ((callG_le tV smR 12 sm_ok 10).1 63 [.p (.list (ns.map .int))]).wt (law_plain0 ns)
end Rf

set_option Elab.async false
set_option linter.all false
set_option maxRecDepth 100000
set_option maxHeartbeats 0
namespace Rf
open PySem PySem.Spec PyProof.Rows L2
theorem tx_dice : ∀ (i ns : Nat) (b : SL), tx.V.defs[i]? = some (.dice ns b) → DiceB tx.V ns b := by
  intro i ns b e
  have h := List.mem_of_getElem? e
  simp [tx, tV, tDefs, tDefs0, tDefs1, tDefs2] at h
  obtain ⟨rfl, rfl⟩ := h
  exact dice_ok _
theorem tx_roll : ∀ (i ns : Nat) (b : SL), tx.V.defs[i]? = some (.roll ns b) → RollB tx.V ns b := by
  intro i ns b e
  have h := List.mem_of_getElem? e
  simp [tx, tV, tDefs, tDefs0, tDefs1, tDefs2] at h
  obtain ⟨rfl, rfl⟩ := h
  exact roll_ok _
end Rf
open PySem PySem.W PySem.Calls PyProof.Rows
theorem PySem.Challenge.cw_wholecorners_k18_errors_of_maps_holds : PySem.Challenge.rw_wholecorners_k18_errors_of_maps.Holds := by
  w_on; o_law
  refine HandSHeadRun.head_any (r := OpenLaw.row PySem.Challenge.rw_wholecorners_k18_errors_of_maps) (q := view (OpenLaw.row PySem.Challenge.rw_wholecorners_k18_errors_of_maps).prog [95]) (H := Rf.hookR Rf.asX Rf.tx) (ob := Rf.obR Rf.asX Rf.tx) (M := 6000) (loose := Rf.loose) (d := HandSHeadRun.topDef (OpenLaw.row PySem.Challenge.rw_wholecorners_k18_errors_of_maps).prog 95) (kwd := []) Rf.obR_eq
    (by kernel_rfl) (fun s => by kernel_rfl) Rf.run (by kernel_rfl) (by kernel_rfl) (by kernel_rfl) (by rfl) (by first | assumption | decide +kernel) (by decide +kernel) ⟨rfl, rfl, rfl, rfl, rfl, by decide +kernel⟩ ?hw ?hc
  case hw => w_witness2
  case hc => exact Rf.law_walkW (i := 63) (n := 63) (dd := 22) rfl (by decide) (by kernel_rfl) (by kernel_rfl) (by kernel_rfl) (by kernel_rfl) Rf.tx_dice Rf.tx_roll ⟨rfl, by decide, by decide⟩ Rf.law_plain

